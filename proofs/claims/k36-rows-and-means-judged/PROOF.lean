import PyProof.Rows.All
import Wide.All
import OpenK.AllK
import Wide.FinOn
import HandS.ForMost
import HandS.Star
import HandS.TupAny
import HandS.TupMul
import HandS.IsInst
import HandS.Wide
import HandS.Style
import HandS.TupLe
import HandS.Conv
import HandS.DictComp
import HandS.Deep
import KE.KDictLaws
import PyProof.NeKinds
import PyProof.ReprLen
import PyProof.Rows.RegStrFacts
import HandS.ListItems
import HandS.SortInts
import HandS.Zip
import HandS.TupLen
import HandS.Gcd
import PySem.Challenge.RW_roundvalues_k36_rows_and_means_judged
set_option Elab.async false
set_option linter.all false
set_option maxRecDepth 100000
set_option autoImplicit false
noncomputable section
/-! EL1: data trees as values, what is owned and what is frozen, readings as functions of an environment of data. -/
namespace EL
open PySem PySem.Spec PyProof.Rows L2

abbrev D := PyData
/-- the tuples of the module's own top that may stand in data (none of them is put into a dict as a key) -/
class KC where
  kc : D → Bool
variable [KC]
def kd : Key → D
  | .inl i => .int i
  | .inr x => .str x

abbrev Le (G G' : Hp) : Prop := ∀ a o, G a = some o → G' a = some o
theorem Le.rfl' {G : Hp} : Le G G := fun _ _ h => h
theorem Le.tr {G G' G'' : Hp} (h : Le G G') (k : Le G' G'') : Le G G'' := fun a o q => k a o (h a o q)
theorem Le.upd {G : Hp} {p : Addr} {o : HO} (h : G p = none) : Le G (upd G p o) := fun a u q => by
  rw [upd_ne (ne_of_none q h)]; exact q

theorem sqL_mono {K : PySem.W.Frag} {G G' : Hp} {a : Addr} {xs : List V} (l : Le G G') (h : SqL K G a xs) : SqL K G' a xs := by
  rcases h with (h | ⟨o, h⟩) | h
  · exact .inl (.inl (l _ _ h))
  · exact .inl (.inr ⟨o, l _ _ h⟩)
  · exact .inr h
theorem sqT_mono {K : PySem.W.Frag} {G G' : Hp} {a : Addr} {xs : List V} (l : Le G G') (h : SqT K G a xs) : SqT K G' a xs := by
  rcases h with (h | ⟨o, h⟩) | h
  · exact .inl (.inl (l _ _ h))
  · exact .inl (.inr ⟨o, l _ _ h⟩)
  · exact .inr h

mutual
/-- v is the data tree d, all of it in the frozen part G -/
inductive Rp (K : PySem.W.Frag) (G : Hp) : V → D → Prop
  | non : Rp K G .non .none
  | bl (b : Bool) : Rp K G (.bl b) (.bool b)
  | int (i : Int) : Rp K G (.int i) (.int i)
  | str (x : Str) : Rp K G (.str x) (.str x)
  | lst {a : Addr} {vs : List V} {ds : List D} (h : G a = some (.lst vs)) (r : RpA K G vs ds) : Rp K G (.ref a) (.list ds)
  | tup {a : Addr} {vs : List V} {ds : List D} (h : G a = some (.tup vs)) (r : RpA K G vs ds) : Rp K G (.ref a) (.tuple ds)
  | kon {a : Addr} {vs : List V} {ds : List D} (h : SqT K (fun _ => none) a vs) (r : RpA K G vs ds) (c : KC.kc (.tuple ds) = true) : Rp K G (.ref a) (.tuple ds)
  | dk {a : Addr} {kvs : List (Key × V)} {ds : List D} (h : G a = some (.dK kvs)) (r : RpA K G (kvs.map (·.2)) ds) : Rp K G (.ref a) (.dict ((kvs.map fun p => kd p.1).zip ds))
  | dt {a : Addr} {kvs : List (List Key × V)} {ds : List D} (h : G a = some (.dT kvs)) (r : RpA K G (kvs.map (·.2)) ds) : Rp K G (.ref a) (.dict ((kvs.map fun p => PyData.tuple (p.1.map kd)).zip ds))
inductive RpA (K : PySem.W.Frag) (G : Hp) : List V → List D → Prop
  | nil : RpA K G [] []
  | cons {v : V} {vs : List V} {d : D} {ds : List D} (h : Rp K G v d) (r : RpA K G vs ds) : RpA K G (v :: vs) (d :: ds)
end

section
variable {K : PySem.W.Frag} {G G' : Hp}
theorem Rp.mono (l : Le G G') {v : V} {d : D} (h : Rp K G v d) : Rp K G' v d :=
  Rp.rec (motive_1 := fun v d _ => Rp K G' v d) (motive_2 := fun vs ds _ => RpA K G' vs ds)
    .non .bl .int .str (fun h _ ih => .lst (l _ _ h) ih) (fun h _ ih => .tup (l _ _ h) ih) (fun h _ c ih => .kon h ih c) (fun h _ ih => .dk (l _ _ h) ih) (fun h _ ih => .dt (l _ _ h) ih)
    .nil (fun _ _ i1 i2 => .cons i1 i2) h
theorem sqT_top {a : Addr} {xs : List V} (h : SqT K (fun _ => none) a xs) : SqT K G a xs := sqT_mono (fun _ _ q => by cases q) h
theorem Rp.sqT {a : Addr} {ds : List D} (h : Rp K G (.ref a) (.tuple ds)) : ∃ vs, SqT K G a vs ∧ RpA K G vs ds := by
  cases h with
  | tup h r => exact ⟨_, .of h, r⟩
  | kon h r c => exact ⟨_, sqT_top h, r⟩
theorem Rp.isRef {v : V} {ds : List D} (h : Rp K G v (.tuple ds)) : ∃ a, v = .ref a := by
  cases h with
  | tup h r => exact ⟨_, rfl⟩
  | kon h r c => exact ⟨_, rfl⟩
theorem RpA.mono (l : Le G G') {vs : List V} {ds : List D} (h : RpA K G vs ds) : RpA K G' vs ds := by
  induction ds generalizing vs with
  | nil => cases h; exact .nil
  | cons d ds ih => cases h with | cons h1 h2 => exact .cons (h1.mono l) (ih h2)
theorem RpA.length : ∀ {vs : List V} {ds : List D}, RpA K G vs ds → vs.length = ds.length
  | [], _, h => by cases h; rfl
  | _ :: vs, _, h => by cases h with | cons _ h2 => simp [RpA.length h2]
theorem RpA.append {vs ws : List V} {ds es : List D} (h : RpA K G vs ds) (k : RpA K G ws es) : RpA K G (vs ++ ws) (ds ++ es) := by
  induction ds generalizing vs with
  | nil => cases h; exact k
  | cons d ds ih => cases h with | cons h1 h2 => exact .cons h1 (ih h2)
theorem RpA.get {vs : List V} {ds : List D} (h : RpA K G vs ds) {i : Nat} {d : D} (e : ds[i]? = some d) : ∃ v, vs[i]? = some v ∧ Rp K G v d := by
  induction ds generalizing vs i with
  | nil => simp at e
  | cons d' ds ih =>
    cases h with
    | cons h1 h2 =>
      cases i with
      | zero => simp at e; subst e; exact ⟨_, by simp, h1⟩
      | succ i => obtain ⟨v, q1, q2⟩ := ih h2 (i := i) (by simpa using e); exact ⟨v, by simpa using q1, q2⟩
theorem RpA.take {vs : List V} {ds : List D} (h : RpA K G vs ds) (n : Nat) : RpA K G (vs.take n) (ds.take n) := by
  induction ds generalizing vs n with
  | nil => cases h; simp; exact .nil
  | cons d ds ih => cases h with | cons h1 h2 => cases n with
    | zero => exact .nil
    | succ n => exact .cons h1 (ih h2 n)
theorem RpA.drop {vs : List V} {ds : List D} (h : RpA K G vs ds) (n : Nat) : RpA K G (vs.drop n) (ds.drop n) := by
  induction ds generalizing vs n with
  | nil => cases h; simp; exact .nil
  | cons d ds ih => cases h with | cons h1 h2 => cases n with
    | zero => exact .cons h1 h2
    | succ n => exact ih h2 n
theorem RpA.reverse {vs : List V} {ds : List D} (h : RpA K G vs ds) : RpA K G vs.reverse ds.reverse := by
  induction ds generalizing vs with
  | nil => cases h; exact .nil
  | cons d ds ih => cases h with | cons h1 h2 => simp only [List.reverse_cons]; exact (ih h2).append (.cons h1 .nil)
theorem RpA.set {vs : List V} {ds : List D} (h : RpA K G vs ds) {v : V} {d : D} (r : Rp K G v d) (n : Nat) : RpA K G (vs.set n v) (ds.set n d) := by
  induction ds generalizing vs n with
  | nil => cases h; exact .nil
  | cons d ds ih => cases h with | cons h1 h2 => cases n with
    | zero => exact .cons r h2
    | succ n => exact .cons h1 (ih h2 n)
theorem RpA.erase {vs : List V} {ds : List D} (h : RpA K G vs ds) (n : Nat) : RpA K G (vs.eraseIdx n) (ds.eraseIdx n) := by
  induction ds generalizing vs n with
  | nil => cases h; exact .nil
  | cons d ds ih => cases h with | cons h1 h2 => cases n with
    | zero => exact h2
    | succ n => exact .cons h1 (ih h2 n)
theorem RpA.ints : ∀ ns : List Int, RpA K G (ns.map V.int) (ns.map PyData.int)
  | [] => .nil
  | n :: ns => .cons (.int n) (RpA.ints ns)
end

/-- the law's source of draws: the cells left, what is left of the present one, the mixed number, the turn -/
structure Src where
  cells : List Int
  left : Int
  mixed : Int
  turn : Int

/-- what a slot holds: a frozen tree; a list, a dict of its own; the source -/
inductive Ent where
  | val (d : D) | ol (ds : List D) | od (b : Bool) (kvs : List (D × D)) | src

structure EE where
  r : List (Option Ent)
  S : Src
def EE.put (e : EE) (i : Nat) (x : Option Ent) : EE := ⟨e.r.set i x, e.S⟩

/-- a result: a frozen tree, a fresh list, a fresh dict -/
inductive Rs where
  | val (d : D) | fl (ds : List D) | fd (b : Bool) (kvs : List (D × D))
def Rs.d : Rs → D
  | .val d => d
  | .fl ds => .list ds
  | .fd b kvs => .dict kvs
def Rs.ent : Rs → Ent
  | .val d => .val d
  | .fl ds => .ol ds
  | .fd b kvs => .od b kvs
def Ent.d : Ent → Option D
  | .val d => some d
  | .ol ds => some (.list ds)
  | .od b kvs => some (.dict kvs)
  | .src => none

structure Cn where
  H0 : Hp
  G0 : Hp
  so : Option (Addr × Addr)

/-- the dict at p holds kvs -/
def OdOk (K : PySem.W.Frag) (G H : Hp) (p : Addr) (b : Bool) (kvs : List (D × D)) : Prop :=
  (b = false ∧ ∃ (l : List (Key × V)) (ds : List D), H p = some (.dK l) ∧ RpA K G (l.map (·.2)) ds ∧ kvs = (l.map fun q => kd q.1).zip ds) ∨
  (b = true ∧ ∃ (l : List (List Key × V)) (ds : List D), H p = some (.dT l) ∧ RpA K G (l.map (·.2)) ds ∧ kvs = (l.map fun q => PyData.tuple (q.1.map kd)).zip ds)

def SlotOk (K : PySem.W.Frag) (C : Cn) (G : Hp) (own : Nat → Option Addr) (H : Hp) (i : Nat) (v : V) : Ent → Prop
  | .val d => Rp K G v d
  | .ol ds => ∃ a vs, v = .ref a ∧ own i = some a ∧ H a = some (.lst vs) ∧ RpA K G vs ds
  | .od b kvs => ∃ a, v = .ref a ∧ own i = some a ∧ OdOk K G H a b kvs
  | .src => ∃ q, C.so = some q ∧ v = .ref q.1

def srcDict (c : Addr) (S : Src) : List (Key × V) := [(.inr "cells", .ref c), (.inr "left", .int S.left), (.inr "mixed", .int S.mixed), (.inr "turn", .int S.turn)]
structure SrcOk (H : Hp) (q : Addr × Addr) (S : Src) : Prop where
  d : H q.1 = some (.dK (srcDict q.2 S))
  c : H q.2 = some (.lst (S.cells.map V.int))

structure Rep (K : PySem.W.Frag) (C : Cn) (G : Hp) (own : Nat → Option Addr) (e : EE) (σ : L2.St) (H : Hp) : Prop where
  sub : Le G H
  ext : Le C.G0 G
  new : ∀ a, G a ≠ none → C.G0 a ≠ none ∨ C.H0 a = none
  frm : ∀ a o, C.H0 a = some o → (∀ q, C.so = some q → a ≠ q.1 ∧ a ≠ q.2) → H a = some o
  len : σ.length = e.r.length
  slot : ∀ i x, e.r[i]? = some (some x) → ∃ v, σ[i]? = some (some v) ∧ SlotOk K C G own H i v x
  ofr : ∀ i a, own i = some a → C.H0 a = none ∧ G a = none
  inj : ∀ i j a, own i = some a → own j = some a → i = j
  thr : ∀ i a, own i = some a → H a ≠ none
  src : ∀ q, C.so = some q → SrcOk H q e.S ∧ C.G0 q.1 = none ∧ C.G0 q.2 = none ∧ C.H0 q.1 ≠ none ∧ C.H0 q.2 ≠ none

def RsOk (K : PySem.W.Frag) (C : Cn) (G : Hp) (own : Nat → Option Addr) (H : Hp) (v : V) : Rs → Prop
  | .val d => Rp K G v d
  | .fl ds => ∃ p vs, v = .ref p ∧ H p = some (.lst vs) ∧ RpA K G vs ds ∧ G p = none ∧ C.H0 p = none ∧ ∀ i, own i ≠ some p
  | .fd b kvs => ∃ p, v = .ref p ∧ OdOk K G H p b kvs ∧ G p = none ∧ C.H0 p = none ∧ ∀ i, own i ≠ some p

/-- reads as the tree d, here and now -/
inductive Rr (K : PySem.W.Frag) (G H : Hp) : V → D → Prop
  | frz {v : V} {d : D} (h : Rp K G v d) : Rr K G H v d
  | lst {p : Addr} {vs : List V} {ds : List D} (h : H p = some (.lst vs)) (r : RpA K G vs ds) : Rr K G H (.ref p) (.list ds)
  | dic {p : Addr} {b : Bool} {kvs : List (D × D)} (h : OdOk K G H p b kvs) : Rr K G H (.ref p) (.dict kvs)
inductive RrA (K : PySem.W.Frag) (G H : Hp) : List V → List D → Prop
  | nil : RrA K G H [] []
  | cons {v : V} {vs : List V} {d : D} {ds : List D} (h : Rr K G H v d) (r : RrA K G H vs ds) : RrA K G H (v :: vs) (d :: ds)

/-- how an operation ends: nothing new, or one new object -/
inductive Grow (K : PySem.W.Frag) (G H : Hp) : V → Rs → Hp → Prop
  | same {v : V} {d : D} (h : Rp K G v d) : Grow K G H v (.val d) H
  | tup {p : Addr} {vs : List V} {ds : List D} (n : H p = none) (h : RpA K G vs ds) : Grow K G H (.ref p) (.val (.tuple ds)) (upd H p (.tup vs))
  | lst {p : Addr} {vs : List V} {ds : List D} (n : H p = none) (h : RpA K G vs ds) : Grow K G H (.ref p) (.fl ds) (upd H p (.lst vs))
  | dk {p : Addr} {l : List (Key × V)} {ds : List D} (n : H p = none) (h : RpA K G (l.map (·.2)) ds) : Grow K G H (.ref p) (.fd false ((l.map fun q => kd q.1).zip ds)) (upd H p (.dK l))
  | dt {p : Addr} {l : List (List Key × V)} {ds : List D} (n : H p = none) (h : RpA K G (l.map (·.2)) ds) : Grow K G H (.ref p) (.fd true ((l.map fun q => PyData.tuple (q.1.map kd)).zip ds)) (upd H p (.dT l))

section
variable {K : PySem.W.Frag} {C : Cn} {G H H' : Hp} {own : Nat → Option Addr} {e : EE} {σ : L2.St} {v : V} {r : Rs}

theorem OdOk.mono {G' : Hp} {p : Addr} {b : Bool} {kvs : List (D × D)} (l : Le G G') (e : H' p = H p) (h : OdOk K G H p b kvs) : OdOk K G' H' p b kvs := by
  rcases h with ⟨h0, l', ds, h1, h2, h3⟩ | ⟨h0, l', ds, h1, h2, h3⟩
  · exact .inl ⟨h0, l', ds, e.trans h1, h2.mono l, h3⟩
  · exact .inr ⟨h0, l', ds, e.trans h1, h2.mono l, h3⟩
theorem OdOk.there {p : Addr} {b : Bool} {kvs : List (D × D)} (h : OdOk K G H p b kvs) : H p ≠ none := by
  rcases h with ⟨h0, l', ds, h1, h2, h3⟩ | ⟨h0, l', ds, h1, h2, h3⟩ <;> rw [h1] <;> exact fun z => nomatch z
theorem ne_of_none' {a b : Addr} {o : HO} (n : H a = none) (h : H b = some o) : a ≠ b := fun z => by rw [z, h] at n; cases n
/-- a slot stays good where its own cell stays -/
theorem SlotOk.keep {G' : Hp} {own' : Nat → Option Addr} {i : Nat} {x : Ent} (l : Le G G') (ho : own' i = own i) (k : ∀ a, own i = some a → H' a = H a) (h : SlotOk K C G own H i v x) : SlotOk K C G' own' H' i v x := by
  cases x with
  | val d => exact Rp.mono l h
  | ol ds => obtain ⟨a, vs, h1, h2, h3, h4⟩ := h; exact ⟨a, vs, h1, ho.trans h2, (k a h2).trans h3, h4.mono l⟩
  | od b kvs => obtain ⟨a, h1, h2, h3⟩ := h; exact ⟨a, h1, ho.trans h2, h3.mono l (k a h2)⟩
  | src => exact h

/-- all stays but one new cell at p; G grows there or not -/
theorem Rep.alloc (R : Rep K C G own e σ H) {p : Addr} {o : HO} (n : H p = none) : Rep K C G own e σ (upd H p o) := by
  have np : ∀ {a u}, H a = some u → a ≠ p := fun h => ne_of_none h n
  have nq : ∀ q, C.so = some q → q.1 ≠ p ∧ q.2 ≠ p := fun q hq => ⟨np (R.src q hq).1.d, np (R.src q hq).1.c⟩
  refine ⟨fun a u h => ?_, R.ext, R.new, fun a u h k => ?_, R.len, fun i x h => ?_, R.ofr, R.inj, fun i a h => ?_, fun q hq => ?_⟩
  · rw [upd_ne (np (R.sub a u h))]; exact R.sub a u h
  · rw [upd_ne (np (R.frm a u h k))]; exact R.frm a u h k
  · obtain ⟨v, h1, h2⟩ := R.slot i x h
    refine ⟨v, h1, ?_⟩
    cases x with
    | val d => exact h2
    | ol ds => obtain ⟨a, vs, q1, q2, q3, q4⟩ := h2; exact ⟨a, vs, q1, q2, by rw [upd_ne (np q3)]; exact q3, q4⟩
    | od b kvs =>
      obtain ⟨a, q1, q2, q3⟩ := h2
      refine ⟨a, q1, q2, q3.mono Le.rfl' ?_⟩
      cases z : H a with
      | none => exact absurd z q3.there
      | some u => rw [upd_ne (np z)]; exact z
    | src => exact h2
  · have z := R.thr i a h
    cases y : H a with
    | none => exact absurd y z
    | some u => rw [upd_ne (np y), y]; exact fun z => nomatch z
  · obtain ⟨⟨h1, h2⟩, h3⟩ := R.src q hq
    exact ⟨⟨by rw [upd_ne (nq q hq).1]; exact h1, by rw [upd_ne (nq q hq).2]; exact h2⟩, h3⟩
/-- a cell that nobody has becomes frozen -/
theorem Rep.ice (R : Rep K C G own e σ H) {p : Addr} {o : HO} (h : H p = some o) (g : G p = none) (h0 : C.H0 p = none) (no : ∀ i, own i ≠ some p) : Rep K C (upd G p o) own e σ H := by
  have l : Le G (upd G p o) := Le.upd g
  refine ⟨fun a u q => ?_, R.ext.tr l, fun a q => ?_, R.frm, R.len, fun i x q => ?_, fun i a q => ?_, R.inj, R.thr, R.src⟩
  · by_cases z : a = p
    · subst z; rw [upd_same] at q; cases q; exact h
    · rw [upd_ne z] at q; exact R.sub a u q
  · by_cases z : a = p
    · subst z; exact .inr h0
    · rw [upd_ne z] at q; exact R.new a q
  · obtain ⟨v, h1, h2⟩ := R.slot i x q
    exact ⟨v, h1, h2.keep l rfl fun _ _ => rfl⟩
  · have z : a ≠ p := fun z => no i (z ▸ q)
    rw [upd_ne z]; exact R.ofr i a q
theorem Rep.notOwn (R : Rep K C G own e σ H) {p : Addr} (n : H p = none) : ∀ i, own i ≠ some p := fun i h => R.thr i p h n
theorem Rep.gnone (R : Rep K C G own e σ H) {p : Addr} (n : H p = none) : G p = none := by
  cases z : G p with
  | none => rfl
  | some u => rw [R.sub p u z] at n; cases n
/-- a free cell was free at the entry, or it is the source's -/
theorem Rep.h0none (R : Rep K C G own e σ H) {p : Addr} (n : H p = none) : C.H0 p = none := by
  cases z : C.H0 p with
  | none => rfl
  | some u =>
    rw [R.frm p u z fun q hq => ⟨ne_of_none' n (R.src q hq).1.d, ne_of_none' n (R.src q hq).1.c⟩] at n
    cases n
/-- an operation's end -/
theorem Rep.grow (R : Rep K C G own e σ H) (g : Grow K G H v r H') : ∃ G', Le G G' ∧ Rep K C G' own e σ H' ∧ RsOk K C G' own H' v r := by
  cases g with
  | same h => exact ⟨G, Le.rfl', R, h⟩
  | @tup p vs ds n h =>
    have l := Le.upd (o := .tup vs) (R.gnone n)
    exact ⟨upd G p (.tup vs), l, (R.alloc n).ice upd_same (R.gnone n) (R.h0none n) (R.notOwn n), .tup upd_same (h.mono l)⟩
  | @lst p vs ds n h => exact ⟨G, Le.rfl', R.alloc n, p, vs, rfl, upd_same, h, R.gnone n, R.h0none n, R.notOwn n⟩
  | @dk p l ds n h => exact ⟨G, Le.rfl', R.alloc n, p, rfl, .inl ⟨rfl, l, ds, upd_same, h, rfl⟩, R.gnone n, R.h0none n, R.notOwn n⟩
  | @dt p l ds n h => exact ⟨G, Le.rfl', R.alloc n, p, rfl, .inr ⟨rfl, l, ds, upd_same, h, rfl⟩, R.gnone n, R.h0none n, R.notOwn n⟩
theorem OdOk.rp {p : Addr} {b : Bool} {kvs : List (D × D)} {u : HO} (e : H p = some u) (h : OdOk K G H p b kvs) (g : G p = none) : Rp K (upd G p u) (.ref p) (.dict kvs) := by
  rcases h with ⟨_, l, ds, h1, h2, rfl⟩ | ⟨_, l, ds, h1, h2, rfl⟩
  · rw [h1] at e; cases e; exact .dk upd_same (h2.mono (Le.upd g))
  · rw [h1] at e; cases e; exact .dt upd_same (h2.mono (Le.upd g))
/-- a result is frozen -/
theorem Rep.frz (R : Rep K C G own e σ H) (h : RsOk K C G own H v r) : ∃ G', Le G G' ∧ Rep K C G' own e σ H ∧ Rp K G' v r.d := by
  cases r with
  | val d => exact ⟨G, Le.rfl', R, h⟩
  | fl ds =>
    obtain ⟨p, vs, rfl, h1, h2, h3, h4, h5⟩ := h
    exact ⟨upd G p (.lst vs), Le.upd h3, R.ice h1 h3 h4 h5, .lst upd_same (h2.mono (Le.upd h3))⟩
  | fd b kvs =>
    obtain ⟨p, rfl, h1, h3, h4, h5⟩ := h
    cases z : H p with
    | none => exact absurd z h1.there
    | some u => exact ⟨upd G p u, Le.upd h3, R.ice z h3 h4 h5, h1.rp z h3⟩
/-- a slot is forgotten, or what it owns is handed on -/
theorem Rep.forget (R : Rep K C G own e σ H) (i : Nat) : Rep K C G (fun j => if j = i then none else own j) (e.put i none) σ H := by
  refine ⟨R.sub, R.ext, R.new, R.frm, by simp [EE.put, R.len], fun j x h => ?_, fun j a h => ?_, fun j k a h1 h2 => ?_, fun j a h => ?_, R.src⟩
  · by_cases z : j = i
    · subst z
      by_cases y : j < e.r.length
      · simp [EE.put, y] at h
      · simp [EE.put] at h
        rw [List.getElem?_eq_none (by simp; omega)] at h
        cases h
    · have h' : e.r[j]? = some (some x) := by
        have : (e.r.set i none)[j]? = e.r[j]? := List.getElem?_set_ne (Ne.symm z)
        rw [← this]; exact h
      obtain ⟨v, h1, h2⟩ := R.slot j x h'
      exact ⟨v, h1, h2.keep Le.rfl' (by simp [z]) fun _ _ => rfl⟩
  · by_cases z : j = i
    · simp [z] at h
    · simp [z] at h; exact R.ofr j a h
  · by_cases z : j = i
    · simp [z] at h1
    · by_cases y : k = i
      · simp [y] at h2
      · simp [z] at h1; simp [y] at h2; exact R.inj j k a h1 h2
  · by_cases z : j = i
    · simp [z] at h
    · simp [z] at h; exact R.thr j a h
/-- what a slot owns, as a result -/
theorem Rep.hand (R : Rep K C G own e σ H) {i : Nat} {x : Ent} (h : e.r[i]? = some (some x)) (r : Rs) (hr : x = r.ent) :
    ∃ v own', σ[i]? = some (some v) ∧ Rep K C G own' (e.put i none) σ H ∧ RsOk K C G own' H v r := by
  obtain ⟨v, h1, h2⟩ := R.slot i x h
  refine ⟨v, _, h1, R.forget i, ?_⟩
  subst hr
  have no : ∀ a, own i = some a → ∀ j, (if j = i then none else own j) ≠ some a := fun a q j k => by
    by_cases z : j = i
    · simp [z] at k
    · simp [z] at k; exact z (R.inj j i a k q)
  cases r with
  | val d => exact h2
  | fl ds =>
    obtain ⟨a, vs, q1, q2, q3, q4⟩ := h2
    exact ⟨a, vs, q1, q3, q4, (R.ofr i a q2).2, (R.ofr i a q2).1, no a q2⟩
  | fd b kvs =>
    obtain ⟨a, q1, q2, q3⟩ := h2
    exact ⟨a, q1, q3, (R.ofr i a q2).2, (R.ofr i a q2).1, no a q2⟩
/-- a result goes to a slot -/
theorem Rep.store (R : Rep K C G own e σ H) (h : RsOk K C G own H v r) {i : Nat} (hi : i < e.r.length) :
    ∃ own', Rep K C G own' (e.put i (some r.ent)) (σ.set i (some v)) H ∧ ∀ k a, own' k = some a → own k = some a ∨ (v = .ref a ∧ ∀ d, r ≠ .val d) := by
  have F := R.forget i
  generalize ho : (fun j => if j = i then none else own j) = own0 at F
  have o0 : own0 i = none := by rw [← ho]; simp
  have oj : ∀ j, j ≠ i → own0 j = own j := fun j z => by rw [← ho]; simp [z]
  have hs : i < σ.length := by rw [R.len]; exact hi
  -- the new owner
  have key : ∀ w : Option Addr, (∀ a, w = some a → C.H0 a = none ∧ G a = none ∧ H a ≠ none ∧ ∀ j, own j ≠ some a) → SlotOk K C G (fun j => if j = i then w else own0 j) H i v r.ent →
      Rep K C G (fun j => if j = i then w else own0 j) (e.put i (some r.ent)) (σ.set i (some v)) H := by
    intro w hw hk
    refine ⟨R.sub, R.ext, R.new, R.frm, by simp [EE.put, R.len], fun j x q => ?_, fun j a q => ?_, fun j k a q1 q2 => ?_, fun j a q => ?_, R.src⟩
    · by_cases z : j = i
      · subst z
        have : x = r.ent := by simp [EE.put, hi] at q; exact q.symm
        subst this
        exact ⟨v, by simp [hs], hk⟩
      · have q' : (e.put i none).r[j]? = some (some x) := by
          show (e.r.set i none)[j]? = _
          rw [List.getElem?_set_ne (Ne.symm z)]
          have : (e.r.set i (some r.ent))[j]? = some (some x) := q
          rwa [List.getElem?_set_ne (Ne.symm z)] at this
        obtain ⟨u, h1, h2⟩ := F.slot j x q'
        exact ⟨u, by rw [List.getElem?_set_ne (Ne.symm z)]; exact h1, h2.keep Le.rfl' (by simp [z]) fun _ _ => rfl⟩
    · by_cases z : j = i
      · simp [z] at q; exact ⟨(hw a q).1, (hw a q).2.1⟩
      · simp [z] at q; exact F.ofr j a q
    · by_cases z : j = i
      · by_cases y : k = i
        · exact z.trans y.symm
        · simp [z] at q1; simp [y] at q2; rw [oj k y] at q2; exact absurd q2 ((hw a q1).2.2.2 k)
      · by_cases y : k = i
        · simp [y] at q2; simp [z] at q1; rw [oj j z] at q1; exact absurd q1 ((hw a q2).2.2.2 j)
        · simp [z] at q1; simp [y] at q2; exact F.inj j k a q1 q2
    · by_cases z : j = i
      · simp [z] at q; exact (hw a q).2.2.1
      · simp [z] at q; exact F.thr j a q
  have pr : ∀ w : Option Addr, (∀ a, w = some a → v = .ref a ∧ ∀ d, r ≠ .val d) → ∀ k a, (if k = i then w else own0 k) = some a → own k = some a ∨ (v = .ref a ∧ ∀ d, r ≠ .val d) := fun w hw k a q => by
    by_cases z : k = i
    · rw [if_pos z] at q; exact .inr (hw a q)
    · rw [if_neg z, oj k z] at q; exact .inl q
  cases r with
  | val d => exact ⟨_, key none (fun a q => by cases q) h, pr none fun a q => by cases q⟩
  | fl ds =>
    obtain ⟨p, vs, rfl, h1, h2, h3, h4, h5⟩ := h
    refine ⟨_, key (some p) (fun a q => ?_) ⟨p, vs, rfl, by simp, h1, h2⟩, pr (some p) fun a q => ?_⟩
    · cases q; exact ⟨h4, h3, (by rw [h1]; exact (fun z => nomatch z)), h5⟩
    · cases q; exact ⟨rfl, fun d => (fun z => nomatch z)⟩
  | fd b kvs =>
    obtain ⟨p, rfl, h1, h3, h4, h5⟩ := h
    refine ⟨_, key (some p) (fun a q => ?_) ⟨p, rfl, by simp, h1⟩, pr (some p) fun a q => ?_⟩
    · cases q; exact ⟨h4, h3, h1.there, h5⟩
    · cases q; exact ⟨rfl, fun d => (fun z => nomatch z)⟩
/-- the cell that slot i owns is changed -/
theorem Rep.write (R : Rep K C G own e σ H) {i : Nat} {a : Addr} (ho : own i = some a) {u : HO} {x : Ent} (hi : i < e.r.length) {w : V} (hw : σ[i]? = some (some w)) (hx : SlotOk K C G own (upd H a u) i w x) : Rep K C G own (e.put i (some x)) σ (upd H a u) := by
  obtain ⟨a0, ag⟩ := R.ofr i a ho
  have ne : ∀ b o, G b = some o → b ≠ a := fun b o q z => by rw [z, ag] at q; cases q
  refine ⟨fun b o q => ?_, R.ext, R.new, fun b o q k => ?_, by simp [EE.put, R.len], fun j y q => ?_, R.ofr, R.inj, fun j b q => ?_, fun q hq => ?_⟩
  · rw [upd_ne (ne b o q)]; exact R.sub b o q
  · rw [upd_ne (fun z => by rw [z, a0] at q; cases q)]; exact R.frm b o q k
  · by_cases z : j = i
    · subst z
      have : y = x := by simp [EE.put, hi] at q; exact q.symm
      subst this
      exact ⟨w, hw, hx⟩
    · have q' : e.r[j]? = some (some y) := by
        have : (e.r.set i (some x))[j]? = some (some y) := q
        rwa [List.getElem?_set_ne (Ne.symm z)] at this
      obtain ⟨v, h1, h2⟩ := R.slot j y q'
      exact ⟨v, h1, h2.keep Le.rfl' rfl fun b hb => upd_ne fun k => z (R.inj j i a (k ▸ hb) ho)⟩
  · by_cases z : b = a
    · rw [z, upd_same]; exact fun z => nomatch z
    · rw [upd_ne z]; exact R.thr j b q
  · obtain ⟨⟨h1, h2⟩, h3, h4, h5, h6⟩ := R.src q hq
    exact ⟨⟨by rw [upd_ne (fun z => h5 (by rw [z]; exact a0))]; exact h1, by rw [upd_ne (fun z => h6 (by rw [z]; exact a0))]; exact h2⟩, h3, h4, h5, h6⟩
end
end EL
/-! EL2: the judgements of the data layer and its structural rules. -/
namespace EL
open PySem PySem.Spec PyProof.Rows L2
/-- a decided bound that nothing computes with -/
theorem hide_ex (p : Prop) [Decidable p] : ∃ b : Bool, b = decide p := ⟨_, rfl⟩
def hide (p : Prop) [Decidable p] : Bool := Classical.choose (hide_ex p)
theorem hide_eq (p : Prop) [Decidable p] : hide p = decide p := Classical.choose_spec (hide_ex p)
theorem unhide {p : Prop} [Decidable p] (h : hide p = true) : p := of_decide_eq_true ((hide_eq p).symm.trans h)
theorem hid {p : Prop} [Decidable p] (h : p) : hide p = true := (hide_eq p).trans (decide_eq_true h)
def small (n : Nat) : Bool := hide (n ≤ 16777216)
theorem small_le {n : Nat} (h : n ≤ 16777216) : small n = true := hid h
variable [KC]

abbrev FE := EE → Option (Rs × EE)
abbrev FT := EE → Option (Bool × EE)
abbrev Th := EE → Option D
abbrev FO := EE → Option (Th × EE)
abbrev FOs := EE → Option ((EE → Option (List D)) × EE)
abbrev FA := EE → Option (List D × EE)
abbrev FG := D → EE → Option EE
inductive Fl where
  | nx | rt (r : Rs) | bk | ct
abbrev FS := EE → Option (Fl × EE)

def tE (K : PySem.W.Frag) (F : FE) : TE := fun σ H Q => ∃ C G own e r e', Rep K C G own e σ H ∧ F e = some (r, e') ∧
  ∀ v G' own' H', Le G G' → Rep K C G' own' e' σ H' → RsOk K C G' own' H' v r → Q v H'
def tTst (K : PySem.W.Frag) (F : FT) : TT := fun σ H Q => ∃ C G own e b e', Rep K C G own e σ H ∧ F e = some (b, e') ∧
  ∀ G' own' H', Le G G' → Rep K C G' own' e' σ H' → Q b H'
def Good (K : PySem.W.Frag) (C : Cn) (σ : L2.St) (G : Hp) (v : V) (t : Th) : Prop :=
  ∀ G2 own2 e2 H2 d, Le G G2 → Rep K C G2 own2 e2 σ H2 → t e2 = some d → Rr K G2 H2 v d
def tO (K : PySem.W.Frag) (F : FO) : TE := fun σ H Q => ∃ C G own e t e', Rep K C G own e σ H ∧ F e = some (t, e') ∧
  ∀ v G' own' H', Le G G' → Rep K C G' own' e' σ H' → Good K C σ G' v t → Q v H'
def GoodA (K : PySem.W.Frag) (C : Cn) (σ : L2.St) (G : Hp) (vs : List V) (t : EE → Option (List D)) : Prop :=
  ∀ G2 own2 e2 H2 ds, Le G G2 → Rep K C G2 own2 e2 σ H2 → t e2 = some ds → RrA K G2 H2 vs ds
def tOs (K : PySem.W.Frag) (F : FOs) : TA := fun σ H Q => ∃ C G own e t e', Rep K C G own e σ H ∧ F e = some (t, e') ∧
  ∀ vs G' own' H', Le G G' → Rep K C G' own' e' σ H' → GoodA K C σ G' vs t → Q vs H'
def tA (K : PySem.W.Frag) (F : FA) : TA := fun σ H Q => ∃ C G own e ds e', Rep K C G own e σ H ∧ F e = some (ds, e') ∧
  ∀ vs G' own' H', Le G G' → Rep K C G' own' e' σ H' → RpA K G' vs ds → Q vs H'
def tG (K : PySem.W.Frag) (F : FG) : TG := fun v σ H Q => ∃ C G own e d e', Rep K C G own e σ H ∧ Rp K G v d ∧ F d e = some e' ∧
  ∀ σ' G' own' H', Le G G' → Rep K C G' own' e' σ' H' → Q σ' H'
def FlOk (K : PySem.W.Frag) (C : Cn) (G : Hp) (e' : EE) (D : Ends) : Fl → Prop
  | .nx => ∀ σ' G' own' H', Le G G' → Rep K C G' own' e' σ' H' → D.nx σ' H'
  | .rt r => ∀ v σ' G' own' H', Le G G' → Rep K C G' own' e' σ' H' → RsOk K C G' own' H' v r → D.rt v H'
  | .bk => ∀ σ' G' own' H', Le G G' → Rep K C G' own' e' σ' H' → D.bk σ' H'
  | .ct => ∀ σ' G' own' H', Le G G' → Rep K C G' own' e' σ' H' → D.ct σ' H'
def tS (K : PySem.W.Frag) (F : FS) : TS := fun D σ H => ∃ C G own e fl e', Rep K C G own e σ H ∧ F e = some (fl, e') ∧ FlOk K C G e' D fl

abbrev ED (X : Cx) (e : Expr) (F : FE) := PE X e (tE X.K F)
abbrev OE (X : Cx) (e : Expr) (F : FO) := PE X e (tO X.K F)
abbrev TD (X : Cx) (e : Expr) (F : FT) := PT X e (tTst X.K F)
abbrev SD (X : Cx) (s : Stmt) (F : FS) := PS X s (tS X.K F)
abbrev BD (X : Cx) (s : List Stmt) (F : FS) := PSs X s (tS X.K F)

theorem bind_some_of {α β : Type} {x : Option α} {f : α → Option β} {b : β} (h : x.bind f = some b) : ∃ a, x = some a ∧ f a = some b := by
  cases x with
  | none => cases h
  | some a => exact ⟨a, rfl, h⟩

section
variable {X : Cx} {e : Expr}
theorem peImp {t t' : TE} (h : PE X e t) (w : ∀ σ H Q, t' σ H Q → t σ H Q) : PE X e t' := ⟨fun a b c d k I q => h.run a b c d k I (w c d k q)⟩
theorem ptImp {t t' : TT} (h : PT X e t) (w : ∀ σ H Q, t' σ H Q → t σ H Q) : PT X e t' := ⟨fun a b c d k I q => h.run a b c d k I (w c d k q)⟩
theorem pwImp {t t' : TT} (h : PW X e t) (w : ∀ σ H Q, t' σ H Q → t σ H Q) : PW X e t' := ⟨fun z a b c d k I q => h.run z a b c d k I (w c d k q)⟩
theorem paImp {es : List Expr} {t t' : TA} (h : PA X es t) (w : ∀ σ H Q, t' σ H Q → t σ H Q) : PA X es t' := ⟨fun z a b c d k I q => h.run z a b c d k I (w c d k q)⟩
theorem psImp {s : Stmt} {t t' : TS} (h : PS X s t) (w : ∀ D σ H, t' D σ H → t D σ H) : PS X s t' := ⟨fun a b c d k I q => h.run a b c d k I (w k c d q)⟩
theorem pssImp {s : List Stmt} {t t' : TS} (h : PSs X s t) (w : ∀ D σ H, t' D σ H → t D σ H) : PSs X s t' := ⟨fun a b c d k I q => h.run a b c d k I (w k c d q)⟩
theorem pgImp {t t' : TG} (h : PG X e t) (w : ∀ v σ H Q, t' v σ H Q → t v σ H Q) : PG X e t' := ⟨fun a b c d v u k I r q => h.run a b c d v u k I r (w v c d k q)⟩
end

/-! ### names and constants -/
def fVar (i : Nat) : FE := fun e => match e.r[i]? with
  | some (some (.val d)) => some (.val d, e)
  | some (some (.ol ds)) => some (.val (.list ds), e.put i (some (.val (.list ds))))
  | some (some (.od b kvs)) => some (.val (.dict kvs), e.put i (some (.val (.dict kvs))))
  | _ => none
def rd (i : Nat) (e : EE) : Option D := match e.r[i]? with
  | some (some x) => x.d
  | _ => none
def fC (d : D) : FE := fun e => some (.val d, e)

section
variable {K : PySem.W.Frag} {C : Cn} {G H : Hp} {own : Nat → Option Addr} {e : EE} {σ : L2.St}
theorem ltOf {α : Type} {l : List α} {i : Nat} {x : α} (h : l[i]? = some x) : i < l.length := by
  cases Nat.lt_or_ge i l.length with
  | inl q => exact q
  | inr q => rw [List.getElem?_eq_none q] at h; cases h
/-- what a slot owns is frozen where it stands -/
theorem Rep.iceVar (R : Rep K C G own e σ H) {i : Nat} {x : Ent} (h : e.r[i]? = some (some x)) (r : Rs) (hr : x = r.ent) :
    ∃ v G' own', σ[i]? = some (some v) ∧ Le G G' ∧ Rep K C G' own' (e.put i (some (.val r.d))) σ H ∧ Rp K G' v r.d := by
  obtain ⟨v, own1, h1, R1, k1⟩ := R.hand h r hr
  obtain ⟨G', l, R2, k2⟩ := R1.frz k1
  obtain ⟨own3, R3, _⟩ := R2.store (r := .val r.d) k2 (i := i) (by have := ltOf h; simp [EE.put]; exact this)
  refine ⟨v, G', own3, h1, l, ?_, k2⟩
  have e1 : (e.put i none).put i (some (Rs.val r.d).ent) = e.put i (some (.val r.d)) := by simp [EE.put, Rs.ent]
  have e2 : σ.set i (some v) = σ := by
    apply List.ext_getElem?
    intro j
    by_cases z : j = i
    · subst z; have := ltOf h1; simp [this, h1]; exact ((List.getElem?_eq_some_iff.mp h1).2).symm
    · rw [List.getElem?_set_ne (Ne.symm z)]
  rw [e1, e2] at R3
  exact R3
/-- what is read at a name -/
theorem Rep.read (R : Rep K C G own e σ H) {i : Nat} {d : D} (h : rd i e = some d) : ∃ v, σ[i]? = some (some v) ∧ Rr K G H v d := by
  unfold rd at h
  split at h
  · rename_i x hx
    obtain ⟨v, h1, h2⟩ := R.slot i x hx
    refine ⟨v, h1, ?_⟩
    cases x with
    | val d' => cases h; exact .frz h2
    | ol ds => cases h; obtain ⟨a, vs, rfl, _, q3, q4⟩ := h2; exact .lst q3 q4
    | od b kvs => cases h; obtain ⟨a, rfl, _, q3⟩ := h2; exact .dic q3
    | src => cases h
  · cases h
end

section
variable {X : Cx}
theorem ed_var {i : Nat} {e : Expr} (h : PE X e (tVar i)) : ED X e (fVar i) := by
  refine peImp h fun σ H Q w => ?_
  obtain ⟨C, G, own, ev, r, e', R, hf, k⟩ := w
  unfold fVar at hf
  split at hf
  · rename_i d hx
    cases hf
    obtain ⟨v, h1, h2⟩ := R.slot i _ hx
    exact ⟨v, h1, k v G own H Le.rfl' R h2⟩
  · rename_i ds hx
    cases hf
    obtain ⟨v, G', own', h1, l, R', h2⟩ := R.iceVar hx (.fl ds) rfl
    exact ⟨v, h1, k v G' own' H l R' h2⟩
  · rename_i ds hx
    cases hf
    obtain ⟨v, G', own', h1, l, R', h2⟩ := R.iceVar hx (.fd _ ds) rfl
    exact ⟨v, h1, k v G' own' H l R' h2⟩
  · cases hf
/-- a value that hangs on nothing -/
theorem ed_c {e : Expr} {v : V} {d : D} (h : PE X e (tC v)) (r : ∀ G, Rp X.K G v d) : ED X e (fC d) := by
  refine peImp h fun σ H Q w => ?_
  obtain ⟨C, G, own, ev, r', e', R, hf, k⟩ := w
  cases hf
  exact k v G own H Le.rfl' R (r G)
theorem ed_int {i j pos} : ED X (.Constant (.int i) j pos) (fC (.int i)) := ed_c pe_int fun _ => .int i
theorem ed_bl {b j pos} : ED X (.Constant (.bool b) j pos) (fC (.bool b)) := ed_c pe_bl fun _ => .bl b
theorem ed_non {j pos} : ED X (.Constant .none j pos) (fC .none) := ed_c pe_non fun _ => .non
theorem ed_str {x j pos} : ED X (.Constant (.str x) j pos) (fC (.str x)) := ed_c pe_str fun _ => .str x
theorem rp_top {K : PySem.W.Frag} {v : V} {d : D} (h : Rp K (fun _ => none) v d) (G : Hp) : Rp K G v d := h.mono fun _ _ q => by cases q
theorem ed_glob {x : Str} {v : V} {u : Value} {d : D} {pos : Pos} (hg : Gl X x) (hm : X.mg x = some u) (r : RelV v u) (h : Rp X.K (fun _ => none) v d) (hd : (x == ("__debug__" : Str)) = false := by decide) : ED X (.Name x pos) (fC d) :=
  ed_c (pe_glob hg hm r hd) (rp_top h)

/-! ### operands -/
def oVal (F : FE) : FO := fun e => (F e).bind fun p => some (fun _ => some p.1.d, p.2)
def oVar (i : Nat) : FO := fun e => (rd i e).bind fun _ => some (rd i, e)
theorem oe_val {e : Expr} {F : FE} (h : ED X e F) : OE X e (oVal F) := by
  refine peImp h fun σ H Q w => ?_
  obtain ⟨C, G, own, ev, t, e', R, hf, k⟩ := w
  obtain ⟨⟨r, e1⟩, h1, h2⟩ := bind_some_of hf
  cases h2
  refine ⟨C, G, own, ev, r, e1, R, h1, fun v G' own' H' l R' ok => ?_⟩
  obtain ⟨G2, l2, R2, p⟩ := R'.frz ok
  refine k v G2 own' H' (l.tr l2) R2 fun G3 own3 e3 H3 d l3 R3 q => ?_
  cases q
  exact .frz (p.mono l3)
theorem oe_var {i : Nat} {e : Expr} (h : PE X e (tVar i)) : OE X e (oVar i) := by
  refine peImp h fun σ H Q w => ?_
  obtain ⟨C, G, own, ev, t, e', R, hf, k⟩ := w
  obtain ⟨d, h1, h2⟩ := bind_some_of hf
  cases h2
  obtain ⟨v, q1, q2⟩ := R.read h1
  refine ⟨v, q1, k v G own H Le.rfl' R fun G3 own3 e3 H3 d' l3 R3 q => ?_⟩
  obtain ⟨v', y1, y2⟩ := R3.read q
  rw [q1] at y1; cases y1
  exact y2
def oNil : FOs := fun e => some (fun _ => some [], e)
def oCons (A : FO) (B : FOs) : FOs := fun e => (A e).bind fun p => (B p.2).bind fun q => some (fun z => (p.1 z).bind fun d => (q.1 z).bind fun ds => some (d :: ds), q.2)
theorem os_nil : PA X [] (tOs X.K oNil) := by
  refine paImp pa_nil fun σ H Q w => ?_
  obtain ⟨C, G, own, ev, t, e', R, hf, k⟩ := w
  cases hf
  exact k [] G own H Le.rfl' R fun G3 own3 e3 H3 d' l3 R3 q => by cases q; exact .nil
theorem os_cons {e : Expr} {es : List Expr} {A : FO} {B : FOs} (ha : OE X e A) (hb : PA X es (tOs X.K B)) (hs : starEach (e :: es) X.env = (false, eval e X.env) :: starEach es X.env := by rfl) : PA X (e :: es) (tOs X.K (oCons A B)) := by
  refine paImp (pa_cons ha hb hs) fun σ H Q w => ?_
  obtain ⟨C, G, own, ev, t, e', R, hf, k⟩ := w
  obtain ⟨⟨t1, e1⟩, h1, h2⟩ := bind_some_of hf
  obtain ⟨⟨t2, e2⟩, h3, h4⟩ := bind_some_of h2
  cases h4
  refine ⟨C, G, own, ev, t1, e1, R, h1, fun v G1 own1 H1 l1 R1 g1 => ⟨C, G1, own1, e1, t2, e2, R1, h3, fun vs G2 own2 H2 l2 R2 g2 => k (v :: vs) G2 own2 H2 (l1.tr l2) R2 fun G3 own3 e3 H3 d l3 R3 q => ?_⟩⟩
  obtain ⟨d1, q1, q2⟩ := bind_some_of q
  obtain ⟨d2, q3, q4⟩ := bind_some_of q2
  cases q4
  exact .cons (g1 _ _ _ _ _ (l2.tr l3) R3 q1) (g2 _ _ _ _ _ l3 R3 q3)
/-- arguments that are kept: frozen -/
def aNil : FA := fun e => some ([], e)
def aCons (F : FE) (B : FA) : FA := fun e => (F e).bind fun p => (B p.2).bind fun q => some (p.1.d :: q.1, q.2)
theorem as_nil : PA X [] (tA X.K aNil) := by
  refine paImp pa_nil fun σ H Q w => ?_
  obtain ⟨C, G, own, ev, t, e', R, hf, k⟩ := w
  cases hf
  exact k [] G own H Le.rfl' R .nil
theorem as_cons {e : Expr} {es : List Expr} {A : FE} {B : FA} (ha : ED X e A) (hb : PA X es (tA X.K B)) (hs : starEach (e :: es) X.env = (false, eval e X.env) :: starEach es X.env := by rfl) : PA X (e :: es) (tA X.K (aCons A B)) := by
  refine paImp (pa_cons ha hb hs) fun σ H Q w => ?_
  obtain ⟨C, G, own, ev, t, e', R, hf, k⟩ := w
  obtain ⟨⟨t1, e1⟩, h1, h2⟩ := bind_some_of hf
  obtain ⟨⟨t2, e2⟩, h3, h4⟩ := bind_some_of h2
  cases h4
  refine ⟨C, G, own, ev, t1, e1, R, h1, fun v G1 own1 H1 l1 R1 ok => ?_⟩
  obtain ⟨Gi, li, Ri, p⟩ := R1.frz ok
  exact ⟨C, Gi, own1, e1, t2, e2, Ri, h3, fun vs G2 own2 H2 l2 R2 g2 => k (v :: vs) G2 own2 H2 (l1.tr (li.tr l2)) R2 (.cons (p.mono l2) g2)⟩
/-- the items of a walked thing: a list, a tuple -/
def seqD : D → Option (List D)
  | .list ds => some ds
  | .tuple ds => some ds
  | _ => none
theorem Rr.seq {K : PySem.W.Frag} {G H : Hp} {v : V} {d : D} {ds : List D} (l : Le G H) (h : Rr K G H v d) (s : seqD d = some ds) : ∃ p vs, v = .ref p ∧ (SqT K H p vs ∨ SqL K H p vs) ∧ RpA K G vs ds := by
  cases h with
  | frz h =>
    cases h with
    | lst h r => cases s; exact ⟨_, _, rfl, .inr (.of (l _ _ h)), r⟩
    | tup h r => cases s; exact ⟨_, _, rfl, .inl (.of (l _ _ h)), r⟩
    | kon h r c => cases s; exact ⟨_, _, rfl, .inl (sqT_top h), r⟩
    | _ => cases s
  | lst h r => cases s; exact ⟨_, _, rfl, .inr (.of h), r⟩
  | dic h => cases s
def aStar (A : FO) (B : FA) : FA := fun e => (A e).bind fun p => (p.1 p.2).bind fun d => (seqD d).bind fun ds => (B p.2).bind fun q => some (ds ++ q.1, q.2)
theorem as_star {e : Expr} {es : List Expr} {p : Pos} {A : FO} {B : FA} (ha : OE X e A) (hb : PA X es (tA X.K B)) (hs : starEach (.Starred e p :: es) X.env = (true, eval e X.env) :: starEach es X.env := by rfl) : PA X (.Starred e p :: es) (tA X.K (aStar A B)) := by
  refine paImp (StX.pa_star ha hb hs) fun σ H Q w => ?_
  obtain ⟨C, G, own, ev, t, e', R, hf, k⟩ := w
  obtain ⟨⟨t1, e1⟩, h1, h2⟩ := bind_some_of hf
  obtain ⟨d, h5, h6⟩ := bind_some_of h2
  obtain ⟨ds, h7, h8⟩ := bind_some_of h6
  obtain ⟨⟨t2, e2⟩, h3, h4⟩ := bind_some_of h8
  cases h4
  refine ⟨C, G, own, ev, t1, e1, R, h1, fun v G1 own1 H1 l1 R1 g1 => ?_⟩
  obtain ⟨q, vs, rfl, s, ra⟩ := (g1 _ _ _ _ _ Le.rfl' R1 h5).seq R1.sub h7
  exact ⟨q, vs, rfl, s, C, G1, own1, e1, t2, e2, R1, h3, fun ws G2 own2 H2 l2 R2 g2 => k (vs ++ ws) G2 own2 H2 (l1.tr l2) R2 ((ra.mono l2).append g2)⟩

/-! ### operators -/
def OpD (X : Cx) (f : Value → Value → Sem Value) (g : D → D → Option Rs) : Prop :=
  OpR X f fun x y H Q => ∃ G dx dy r, Le G H ∧ Rr X.K G H x dx ∧ Rr X.K G H y dy ∧ g dx dy = some r ∧ ∀ v H', Grow X.K G H v r H' → Q v H'
def UnD (X : Cx) (f : Value → Sem Value) (g : D → Option Rs) : Prop :=
  UnR X f fun x H Q => ∃ G dx r, Le G H ∧ Rr X.K G H x dx ∧ g dx = some r ∧ ∀ v H', Grow X.K G H v r H' → Q v H'
def CallD (X : Cx) (f : Value) (g : List D → Option Rs) : Prop :=
  CallR X f fun vs H Q => ∃ G ds r, Le G H ∧ RrA X.K G H vs ds ∧ g ds = some r ∧ ∀ v H', Grow X.K G H v r H' → Q v H'
def eBin (g : D → D → Option Rs) (A B : FO) : FE := fun e => (A e).bind fun p => (B p.2).bind fun q => (p.1 q.2).bind fun x => (q.1 q.2).bind fun y => (g x y).bind fun r => some (r, q.2)
def eUn (g : D → Option Rs) (A : FO) : FE := fun e => (A e).bind fun p => (p.1 p.2).bind fun x => (g x).bind fun r => some (r, p.2)
def eB (g : List D → Option Rs) (A : FOs) : FE := fun e => (A e).bind fun p => (p.1 p.2).bind fun x => (g x).bind fun r => some (r, p.2)
theorem bin_imp {K : PySem.W.Frag} {g : D → D → Option Rs} {A B : FO} {σ : L2.St} {H : Hp} {Q : VK} (w : tE K (eBin g A B) σ H Q) :
    tOp (fun x y H Q => ∃ G dx dy r, Le G H ∧ Rr K G H x dx ∧ Rr K G H y dy ∧ g dx dy = some r ∧ ∀ v H', Grow K G H v r H' → Q v H') (tO K A) (tO K B) σ H Q := by
  obtain ⟨C, G, own, ev, r, e', R, hf, k⟩ := w
  obtain ⟨⟨t1, e1⟩, h1, h2⟩ := bind_some_of hf
  obtain ⟨⟨t2, e2⟩, h3, h4⟩ := bind_some_of h2
  obtain ⟨x, h5, h6⟩ := bind_some_of h4
  obtain ⟨y, h7, h8⟩ := bind_some_of h6
  obtain ⟨r', h9, hx⟩ := bind_some_of h8
  cases hx
  refine ⟨C, G, own, ev, t1, e1, R, h1, fun v G1 own1 H1 l1 R1 g1 => ⟨C, G1, own1, e1, t2, e2, R1, h3, fun u G2 own2 H2 l2 R2 g2 => ?_⟩⟩
  refine ⟨G2, x, y, r, R2.sub, g1 _ _ _ _ _ l2 R2 h5, g2 _ _ _ _ _ Le.rfl' R2 h7, h9, fun z H3 gr => ?_⟩
  obtain ⟨G3, l3, R3, ok⟩ := R2.grow gr
  exact k z G3 own2 H3 (l1.tr (l2.tr l3)) R3 ok
theorem ed_bin {a b : Expr} {op : Operator} {pos : Pos} {A B : FO} {g : D → D → Option Rs} (ho : OpD X (binaryOp op) g) (ha : OE X a A) (hb : OE X b B) : ED X (.BinOp a op b pos) (eBin g A B) :=
  peImp (pe_op ho ha hb) fun _ _ _ w => bin_imp w
theorem ed_cmp {a b : Expr} {op : CmpOp} {pos : Pos} {A B : FO} {g : D → D → Option Rs} (ho : OpD X (compareOp op) g) (ha : OE X a A) (hb : OE X b B) (hm : behindInMarks op b = false) : ED X (.Compare a [op] [b] pos) (eBin g A B) :=
  peImp (pe_cmpR ho ha hb hm) fun _ _ _ w => bin_imp w
theorem ed_ix {a b : Expr} {pos : Pos} {A B : FO} {g : D → D → Option Rs} {r : R2} (hr : ∀ (ta tb : TE), PE X a ta → PE X b tb → PE X (.Subscript a b pos) (tOp r ta tb))
    (hi : ∀ x y H Q, (∃ G dx dy r', Le G H ∧ Rr X.K G H x dx ∧ Rr X.K G H y dy ∧ g dx dy = some r' ∧ ∀ v H', Grow X.K G H v r' H' → Q v H') → r x y H Q) (ha : OE X a A) (hb : OE X b B) : ED X (.Subscript a b pos) (eBin g A B) := by
  refine peImp (hr _ _ ha hb) fun σ H Q w => ?_
  have z := bin_imp w
  obtain ⟨C, G, own, ev, t, e', R, hf, k⟩ := z
  refine ⟨C, G, own, ev, t, e', R, hf, fun v G' own' H' l R' g => ?_⟩
  obtain ⟨C, G, own, ev, t, e', R, hf, k⟩ := k v G' own' H' l R' g
  exact ⟨C, G, own, ev, t, e', R, hf, fun v G' own' H' l R' g => hi _ _ _ _ (k v G' own' H' l R' g)⟩
theorem ed_un {a : Expr} {op : UnaryOp} {pos : Pos} {A : FO} {g : D → Option Rs} (ho : UnD X (unaryOp op) g) (ha : OE X a A) : ED X (.UnaryOp op a pos) (eUn g A) := by
  refine peImp (pe_un ho ha) fun σ H Q w => ?_
  obtain ⟨C, G, own, ev, r, e', R, hf, k⟩ := w
  obtain ⟨⟨t1, e1⟩, h1, h2⟩ := bind_some_of hf
  obtain ⟨x, h5, h6⟩ := bind_some_of h2
  obtain ⟨r', h9, hx⟩ := bind_some_of h6
  cases hx
  refine ⟨C, G, own, ev, t1, e1, R, h1, fun v G1 own1 H1 l1 R1 g1 => ?_⟩
  refine ⟨G1, x, r, R1.sub, g1 _ _ _ _ _ Le.rfl' R1 h5, h9, fun z H3 gr => ?_⟩
  obtain ⟨G3, l3, R3, ok⟩ := R1.grow gr
  exact k z G3 own1 H3 (l1.tr l3) R3 ok
theorem call_imp {K : PySem.W.Frag} {g : List D → Option Rs} {A : FOs} {σ : L2.St} {H : Hp} {Q : VK} (w : tE K (eB g A) σ H Q) :
    tCB (fun vs H Q => ∃ G ds r, Le G H ∧ RrA K G H vs ds ∧ g ds = some r ∧ ∀ v H', Grow K G H v r H' → Q v H') (tOs K A) σ H Q := by
  obtain ⟨C, G, own, ev, r, e', R, hf, k⟩ := w
  obtain ⟨⟨t1, e1⟩, h1, h2⟩ := bind_some_of hf
  obtain ⟨x, h5, h6⟩ := bind_some_of h2
  obtain ⟨r', h9, hx⟩ := bind_some_of h6
  cases hx
  refine ⟨C, G, own, ev, t1, e1, R, h1, fun vs G1 own1 H1 l1 R1 g1 => ?_⟩
  refine ⟨G1, x, r, R1.sub, g1 _ _ _ _ _ Le.rfl' R1 h5, h9, fun z H3 gr => ?_⟩
  obtain ⟨G3, l3, R3, ok⟩ := R1.grow gr
  exact k z G3 own1 H3 (l1.tr l3) R3 ok
theorem ed_callB {x : Str} {p pos : Pos} {e : Expr} {es : List Expr} {A : FOs} {id : String} {g : List D → Option Rs} (hc : CallD X (.builtin id) g) (hg : Gl X x) (hm : X.mg x = none) (hv : bootBuiltins x = some (.builtin id)) (ha : PA X (e :: es) (tOs X.K A))
    (hn : x ≠ "__name__" := by decide) (hdb : (x == ("__debug__" : Str)) = false := by decide) (he : starEach (e :: es) X.env = (false, eval e X.env) :: starEach es X.env := by rfl) (hpl : (backTo pos (starEach es X.env)).any (·.1) = false := by rfl) :
    ED X (.Call (.Name x p) (e :: es) [] pos) (eB g A) := peImp (pe_callB hc hg hm hv ha hn hdb he hpl) fun _ _ _ w => call_imp w
theorem ed_callTy {x : Str} {p pos : Pos} {e : Expr} {es : List Expr} {A : FOs} {id : String} {g : List D → Option Rs} (hc : CallD X (.type id) g) (hg : Gl X x) (hm : X.mg x = none) (hv : bootBuiltins x = some (.type id)) (ha : PA X (e :: es) (tOs X.K A))
    (hn : x ≠ "__name__" := by decide) (hdb : (x == ("__debug__" : Str)) = false := by decide) (he : starEach (e :: es) X.env = (false, eval e X.env) :: starEach es X.env := by rfl) (hpl : (backTo pos (starEach es X.env)).any (·.1) = false := by rfl) :
    ED X (.Call (.Name x p) (e :: es) [] pos) (eB g A) := peImp (pe_callTy hc hg hm hv ha hn hdb he hpl) fun _ _ _ w => call_imp w

/-! ### displays -/
def eTup (A : FA) : FE := fun e => (A e).bind fun p => if small p.1.length = true then some (.val (.tuple p.1), p.2) else none
def eLst (A : FA) : FE := fun e => (A e).bind fun p => if small p.1.length = true then some (.fl p.1, p.2) else none
theorem line_of {n : Nat} (h : small n = true) : n ≤ sizeLine := by rw [sizeLine_eq]; exact unhide h
theorem ed_tup {es : List Expr} {x1} {pos : Pos} {A : FA} (h : PA X es (tA X.K A)) : ED X (.Tuple es x1 pos) (eTup A) := by
  refine peImp (pe_tup h) fun σ H Q w => ?_
  obtain ⟨C, G, own, ev, r, e', R, hf, k⟩ := w
  obtain ⟨⟨ds, e1⟩, h1, h2⟩ := bind_some_of hf
  split at h2
  · rename_i hz
    cases h2
    refine ⟨C, G, own, ev, ds, e1, R, h1, fun vs G1 own1 H1 l1 R1 ra => ⟨by rw [ra.length]; exact line_of hz, fun p hp => ?_⟩⟩
    obtain ⟨G3, l3, R3, ok⟩ := R1.grow (.tup hp ra)
    exact k _ G3 own1 _ (l1.tr l3) R3 ok
  · cases h2
theorem ed_lst {es : List Expr} {pos : Pos} {A : FA} (h : PA X es (tA X.K A)) : ED X (.List es pos) (eLst A) := by
  refine peImp (pe_lst h) fun σ H Q w => ?_
  obtain ⟨C, G, own, ev, r, e', R, hf, k⟩ := w
  obtain ⟨⟨ds, e1⟩, h1, h2⟩ := bind_some_of hf
  split at h2
  · rename_i hz
    cases h2
    refine ⟨C, G, own, ev, ds, e1, R, h1, fun vs G1 own1 H1 l1 R1 ra => ⟨by rw [ra.length]; exact line_of hz, fun p hp => ?_⟩⟩
    obtain ⟨G3, l3, R3, ok⟩ := R1.grow (.lst hp ra)
    exact k _ G3 own1 _ (l1.tr l3) R3 ok
  · cases h2

/-! ### tests -/
def tOf (F : FE) : FT := fun e => (F e).bind fun p => match p.1 with
  | .val (.bool b) => some (b, p.2)
  | _ => none
theorem tOf_some {F : FE} {e e' : EE} {b : Bool} (h : tOf F e = some (b, e')) : F e = some (.val (.bool b), e') := by
  obtain ⟨⟨r, e1⟩, h1, h2⟩ := bind_some_of h
  rw [h1]
  split at h2
  · rename_i c hc
    cases h2
    rw [show r = .val (.bool b) from hc]
  · cases h2
theorem tof_imp {K : PySem.W.Frag} {F : FE} {σ : L2.St} {H : Hp} {Q : Bool → Hp → Prop} (w : tTst K (tOf F) σ H Q) : tE K F σ H fun x H' => ∃ k, x = .bl k ∧ Q k H' := by
  obtain ⟨C, G, own, ev, b, e', R, hf, k⟩ := w
  refine ⟨C, G, own, ev, _, e', R, tOf_some hf, fun v G' own' H' l R' ok => ?_⟩
  have ok : Rp K G' v (.bool b) := ok
  cases ok
  exact ⟨b, rfl, k G' own' H' l R'⟩
theorem td_val {e : Expr} {F : FE} (h : ED X e F) (he : ∀ whole, isTrue e X.env whole = (do let v ← whole; standAt e.pos; holding [v] (truthy v)) := by intro _; rfl) : TD X e (tOf F) :=
  ptImp (pt_val h he) fun _ _ _ w => tof_imp w
theorem td_cmp {a b : Expr} {op : CmpOp} {pos : Pos} {A B : FO} {g : D → D → Option Rs} (ho : OpD X (compareOp op) g) (ha : OE X a A) (hb : OE X b B) (hm : behindInMarks op b = false) : TD X (.Compare a [op] [b] pos) (tOf (eBin g A B)) :=
  ptImp (pt_cmpR ho ha hb hm) fun _ _ _ w => bin_imp (tof_imp w)
def tAnd (A B : FT) : FT := fun e => (A e).bind fun p => if p.1 = true then B p.2 else some (false, p.2)
def tOr (A B : FT) : FT := fun e => (A e).bind fun p => if p.1 = true then some (true, p.2) else B p.2
def tNot (A : FT) : FT := fun e => (A e).bind fun p => some (!p.1, p.2)
theorem td_not {a : Expr} {pos : Pos} {A : FT} (h : TD X a A) : TD X (.UnaryOp .Not a pos) (tNot A) := by
  refine ptImp (pt_not h) fun σ H Q w => ?_
  obtain ⟨C, G, own, ev, b, e', R, hf, k⟩ := w
  obtain ⟨⟨c, e1⟩, h1, h2⟩ := bind_some_of hf
  cases h2
  exact ⟨C, G, own, ev, c, e1, R, h1, k⟩
abbrev WD (X : Cx) (e : Expr) (F : FT) := PW X e (tTst X.K F)
theorem wd_and {a b : Expr} {rest : List Expr} {pos : Pos} {A B : FT} (ha : TD X a A) (hb : WD X (.BoolOp .And (b :: rest) pos) B) : WD X (.BoolOp .And (a :: b :: rest) pos) (tAnd A B) := by
  refine pwImp (pw_and ha hb) fun σ H Q w => ?_
  obtain ⟨C, G, own, ev, c, e', R, hf, k⟩ := w
  obtain ⟨⟨d, e1⟩, h1, h2⟩ := bind_some_of hf
  refine ⟨C, G, own, ev, d, e1, R, h1, fun G1 own1 H1 l1 R1 => ?_⟩
  cases d with
  | true => exact iteT ⟨C, G1, own1, e1, c, e', R1, h2, fun G2 own2 H2 l2 R2 => k G2 own2 H2 (l1.tr l2) R2⟩
  | false => cases h2; exact iteF (k G1 own1 H1 l1 R1)
theorem wd_or {a b : Expr} {rest : List Expr} {pos : Pos} {A B : FT} (ha : TD X a A) (hb : WD X (.BoolOp .Or (b :: rest) pos) B) : WD X (.BoolOp .Or (a :: b :: rest) pos) (tOr A B) := by
  refine pwImp (pw_or ha hb) fun σ H Q w => ?_
  obtain ⟨C, G, own, ev, c, e', R, hf, k⟩ := w
  obtain ⟨⟨d, e1⟩, h1, h2⟩ := bind_some_of hf
  refine ⟨C, G, own, ev, d, e1, R, h1, fun G1 own1 H1 l1 R1 => ?_⟩
  cases d with
  | false => exact iteF ⟨C, G1, own1, e1, c, e', R1, h2, fun G2 own2 H2 l2 R2 => k G2 own2 H2 (l1.tr l2) R2⟩
  | true => cases h2; exact iteT (k G1 own1 H1 l1 R1)
theorem wd_and1 {a : Expr} {pos : Pos} {A : FT} (h : TD X a A) : WD X (.BoolOp .And [a] pos) A := pw_and1 h
theorem wd_or1 {a : Expr} {pos : Pos} {A : FT} (h : TD X a A) : WD X (.BoolOp .Or [a] pos) A := pw_or1 h
/-- and, or of truth values as values -/
def eAnd (A B : FE) : FE := fun e => (A e).bind fun p => match p.1 with
  | .val (.bool true) => B p.2
  | .val (.bool false) => some (.val (.bool false), p.2)
  | _ => none
def eOr (A B : FE) : FE := fun e => (A e).bind fun p => match p.1 with
  | .val (.bool false) => B p.2
  | .val (.bool true) => some (.val (.bool true), p.2)
  | _ => none
def eNot (A : FE) : FE := fun e => (A e).bind fun p => match p.1 with
  | .val (.bool b) => some (.val (.bool !b), p.2)
  | _ => none
theorem ed_one {a : Expr} {op} {pos : Pos} {A : FE} (h : ED X a A) : ED X (.BoolOp op [a] pos) A := pe_one h
theorem ed_and {a b : Expr} {rest : List Expr} {pos : Pos} {A B : FE} (ha : ED X a A) (hb : ED X (.BoolOp .And (b :: rest) pos) B) : ED X (.BoolOp .And (a :: b :: rest) pos) (eAnd A B) := by
  refine peImp (pe_and ha hb) fun σ H Q w => ?_
  obtain ⟨C, G, own, ev, r, e', R, hf, k⟩ := w
  obtain ⟨⟨d, e1⟩, h1, h2⟩ := bind_some_of hf
  refine ⟨C, G, own, ev, d, e1, R, h1, fun v G1 own1 H1 l1 R1 ok => ?_⟩
  dsimp only at h2
  split at h2
  · have ok : Rp X.K G1 v (.bool true) := ok
    cases ok
    exact ⟨true, rfl, iteT ⟨C, G1, own1, e1, r, e', R1, h2, fun v2 G2 own2 H2 l2 R2 => k v2 G2 own2 H2 (l1.tr l2) R2⟩⟩
  · cases h2
    have ok : Rp X.K G1 v (.bool false) := ok
    cases ok
    exact ⟨false, rfl, iteF (k _ G1 own1 H1 l1 R1 (Rp.bl false))⟩
  · cases h2
theorem ed_or {a b : Expr} {rest : List Expr} {pos : Pos} {A B : FE} (ha : ED X a A) (hb : ED X (.BoolOp .Or (b :: rest) pos) B) : ED X (.BoolOp .Or (a :: b :: rest) pos) (eOr A B) := by
  refine peImp (pe_or ha hb) fun σ H Q w => ?_
  obtain ⟨C, G, own, ev, r, e', R, hf, k⟩ := w
  obtain ⟨⟨d, e1⟩, h1, h2⟩ := bind_some_of hf
  refine ⟨C, G, own, ev, d, e1, R, h1, fun v G1 own1 H1 l1 R1 ok => ?_⟩
  dsimp only at h2
  split at h2
  · have ok : Rp X.K G1 v (.bool false) := ok
    cases ok
    exact ⟨false, rfl, iteF ⟨C, G1, own1, e1, r, e', R1, h2, fun v2 G2 own2 H2 l2 R2 => k v2 G2 own2 H2 (l1.tr l2) R2⟩⟩
  · cases h2
    have ok : Rp X.K G1 v (.bool true) := ok
    cases ok
    exact ⟨true, rfl, iteT (k _ G1 own1 H1 l1 R1 (Rp.bl true))⟩
  · cases h2
theorem ed_not {a : Expr} {pos : Pos} {A : FE} (ha : ED X a A) : ED X (.UnaryOp .Not a pos) (eNot A) := by
  refine peImp (pe_not ha) fun σ H Q w => ?_
  obtain ⟨C, G, own, ev, r, e', R, hf, k⟩ := w
  obtain ⟨⟨d, e1⟩, h1, h2⟩ := bind_some_of hf
  refine ⟨C, G, own, ev, d, e1, R, h1, fun v G1 own1 H1 l1 R1 ok => ?_⟩
  dsimp only at h2
  split at h2
  · rename_i b
    cases h2
    have ok : Rp X.K G1 v (.bool b) := ok
    cases ok
    exact ⟨b, rfl, k _ G1 own1 H1 l1 R1 (Rp.bl (!b))⟩
  · cases h2
def eIf (T : FT) (A B : FE) : FE := fun e => (T e).bind fun p => if p.1 = true then A p.2 else B p.2
theorem ed_if {c a b : Expr} {pos : Pos} {T : FT} {A B : FE} (hc : TD X c T) (ha : ED X a A) (hb : ED X b B) : ED X (.IfExp c a b pos) (eIf T A B) := by
  refine peImp (pe_ifExp hc ha hb) fun σ H Q w => ?_
  obtain ⟨C, G, own, ev, r, e', R, hf, k⟩ := w
  obtain ⟨⟨d, e1⟩, h1, h2⟩ := bind_some_of hf
  refine ⟨C, G, own, ev, d, e1, R, h1, fun G1 own1 H1 l1 R1 => ?_⟩
  cases d with
  | true => exact iteT ⟨C, G1, own1, e1, r, e', R1, h2, fun v2 G2 own2 H2 l2 R2 => k v2 G2 own2 H2 (l1.tr l2) R2⟩
  | false => exact iteF ⟨C, G1, own1, e1, r, e', R1, h2, fun v2 G2 own2 H2 l2 R2 => k v2 G2 own2 H2 (l1.tr l2) R2⟩
end
end EL
/-! EL3: statements, targets, loops. -/
namespace EL
open PySem PySem.Spec PyProof.Rows L2
variable [KC]

section
variable {K : PySem.W.Frag} {C : Cn} {G G' H : Hp} {own : Nat → Option Addr} {e e' : EE} {σ : L2.St} {D : Ends} {v : V} {r : Rs}
theorem FlOk.le (l : Le G G') {fl : Fl} (h : FlOk K C G e' D fl) : FlOk K C G' e' D fl := by
  cases fl with
  | nx => exact fun σ' G2 own2 H2 l2 R2 => h σ' G2 own2 H2 (l.tr l2) R2
  | rt r => exact fun v σ' G2 own2 H2 l2 R2 => h v σ' G2 own2 H2 (l.tr l2) R2
  | bk => exact fun σ' G2 own2 H2 l2 R2 => h σ' G2 own2 H2 (l.tr l2) R2
  | ct => exact fun σ' G2 own2 H2 l2 R2 => h σ' G2 own2 H2 (l.tr l2) R2
theorem RsOk.le {C' : Cn} {own' : Nat → Option Addr} {H' : Hp} (l : Le G G') (h : RsOk K C G own H v r)
    (k : ∀ p u, v = .ref p → G p = none → C.H0 p = none → (∀ i, own i ≠ some p) → H p = some u → H' p = some u ∧ G' p = none ∧ C'.H0 p = none ∧ ∀ i, own' i ≠ some p) : RsOk K C' G' own' H' v r := by
  cases r with
  | val d => exact Rp.mono l h
  | fl ds =>
    obtain ⟨p, vs, rfl, h1, h2, h3, h4, h5⟩ := h
    obtain ⟨q1, q2, q3, q4⟩ := k p _ rfl h3 h4 h5 h1
    exact ⟨p, vs, rfl, q1, h2.mono l, q2, q3, q4⟩
  | fd b kvs =>
    obtain ⟨p, rfl, h1, h3, h4, h5⟩ := h
    cases z : H p with
    | none => exact absurd z h1.there
    | some u =>
      obtain ⟨q1, q2, q3, q4⟩ := k p _ rfl h3 h4 h5 z
      exact ⟨p, rfl, h1.mono l (q1.trans z.symm), q2, q3, q4⟩
/-- a result is kept aside while another thing is run -/
theorem Rep.aside (R : Rep K C G own e σ H) (h : RsOk K C G own H v r) : ∃ C', C'.so = C.so ∧ (∀ a, C.H0 a ≠ none → C'.H0 a ≠ none) ∧ (∀ p, v = .ref p → (∀ d, r ≠ .val d) → C'.H0 p ≠ none) ∧ Rep K C' G own e σ H ∧
    ∀ G' own' e' σ' H', Le G G' → Rep K C' G' own' e' σ' H' → Rep K C G' own' e' σ' H' ∧ RsOk K C G' own' H' v r := by
  have cellCase : ∀ p u, v = .ref p → H p = some u → G p = none → C.H0 p = none → (∀ i, own i ≠ some p) → (∀ q, C.so = some q → p ≠ q.1 ∧ p ≠ q.2) →
      (∀ G' own' H', Le G G' → H' p = some u → G' p = none → (∀ i, own' i ≠ some p) → RsOk K C G' own' H' v r) →
      ∃ C', C'.so = C.so ∧ (∀ a, C.H0 a ≠ none → C'.H0 a ≠ none) ∧ (∀ p, v = .ref p → (∀ d, r ≠ .val d) → C'.H0 p ≠ none) ∧ Rep K C' G own e σ H ∧ ∀ G' own' e' σ' H', Le G G' → Rep K C' G' own' e' σ' H' → Rep K C G' own' e' σ' H' ∧ RsOk K C G' own' H' v r := by
    intro p u hv hu hg h0 ho hs back
    have g0 : C.G0 p = none := by
      cases z : C.G0 p with
      | none => rfl
      | some o => rw [R.ext p o z] at hg; cases hg
    refine ⟨⟨upd C.H0 p u, C.G0, C.so⟩, rfl, fun a ha => ?_, fun q hq _ => ?_, ⟨R.sub, R.ext, fun a ha => ?_, fun a o q k => ?_, R.len, R.slot, fun i a q => ?_, R.inj, R.thr, fun q hq => ?_⟩, fun G' own' e' σ' H' l R' => ?_⟩
    · show upd C.H0 p u a ≠ none
      by_cases z : a = p
      · rw [z, upd_same]; exact (fun z => nomatch z)
      · rw [upd_ne z]; exact ha
    · rw [hv] at hq; cases hq; show upd C.H0 p u p ≠ none; rw [upd_same]; exact (fun z => nomatch z)
    · rcases R.new a ha with z | z
      · exact .inl z
      · refine .inr ?_
        have y : a ≠ p := fun y => ha (by rw [y]; exact hg)
        show upd C.H0 p u a = none
        rw [upd_ne y]; exact z
    · have q : upd C.H0 p u a = some o := q
      by_cases z : a = p
      · subst z; rw [upd_same] at q; cases q; exact hu
      · rw [upd_ne z] at q; exact R.frm a o q k
    · refine ⟨?_, (R.ofr i a q).2⟩
      have y : a ≠ p := fun y => ho i (by rw [← y]; exact q)
      show upd C.H0 p u a = none
      rw [upd_ne y]; exact (R.ofr i a q).1
    · obtain ⟨s1, s2, s3, s4, s5⟩ := R.src q hq
      have n := hs q hq
      exact ⟨s1, s2, s3, by show upd C.H0 p u q.1 ≠ none; rw [upd_ne (Ne.symm n.1)]; exact s4, by show upd C.H0 p u q.2 ≠ none; rw [upd_ne (Ne.symm n.2)]; exact s5⟩
    · have hp : H' p = some u := R'.frm p u upd_same hs
      have gp : G' p = none := by
        cases z : G' p with
        | none => rfl
        | some o =>
          rcases R'.new p (by rw [z]; exact (fun z => nomatch z)) with y | y
          · exact absurd g0 y
          · have y : upd C.H0 p u p = none := y
            rw [upd_same] at y; cases y
      have op : ∀ i, own' i ≠ some p := fun i z => by
        have y : upd C.H0 p u p = none := (R'.ofr i p z).1
        rw [upd_same] at y; cases y
      refine ⟨⟨R'.sub, R'.ext, fun a ha => ?_, fun a o q k => ?_, R'.len, R'.slot, fun i a q => ?_, R'.inj, R'.thr, fun q hq => ?_⟩, back G' own' H' l hp gp op⟩
      · rcases R'.new a ha with z | z
        · exact .inl z
        · have z : upd C.H0 p u a = none := z
          have y : a ≠ p := fun y => ha (by rw [y]; exact gp)
          rw [upd_ne y] at z; exact .inr z
      · refine R'.frm a o ?_ k
        show upd C.H0 p u a = some o
        rw [upd_ne (fun y => by rw [y, h0] at q; cases q)]; exact q
      · refine ⟨?_, (R'.ofr i a q).2⟩
        have y : upd C.H0 p u a = none := (R'.ofr i a q).1
        have z : a ≠ p := fun z => op i (by rw [← z]; exact q)
        rw [upd_ne z] at y; exact y
      · obtain ⟨s1, s2, s3, s4, s5⟩ := R'.src q hq
        have n := hs q hq
        have s4 : upd C.H0 p u q.1 ≠ none := s4
        have s5 : upd C.H0 p u q.2 ≠ none := s5
        rw [upd_ne (Ne.symm n.1)] at s4
        rw [upd_ne (Ne.symm n.2)] at s5
        exact ⟨s1, s2, s3, s4, s5⟩
  have ns : ∀ p, C.H0 p = none → ∀ q, C.so = some q → p ≠ q.1 ∧ p ≠ q.2 := fun p h0 q hq => ⟨fun z => (R.src q hq).2.2.2.1 (z ▸ h0), fun z => (R.src q hq).2.2.2.2 (z ▸ h0)⟩
  cases r with
  | val d => exact ⟨C, rfl, fun _ h => h, fun _ _ n => absurd rfl (n d), R, fun G' own' e' σ' H' l R' => ⟨R', Rp.mono l h⟩⟩
  | fl ds =>
    obtain ⟨p, vs, rfl, h1, h2, h3, h4, h5⟩ := h
    exact cellCase p _ rfl h1 h3 h4 h5 (ns p h4) fun G' own' H' l y1 y2 y3 => ⟨p, vs, rfl, y1, h2.mono l, y2, h4, y3⟩
  | fd b kvs =>
    obtain ⟨p, rfl, h1, h3, h4, h5⟩ := h
    cases z : H p with
    | none => exact absurd z h1.there
    | some u => exact cellCase p u rfl z h3 h4 h5 (ns p h4) fun G' own' H' l y1 y2 y3 => ⟨p, rfl, h1.mono l (y1.trans z.symm), y2, h4, y3⟩
end

/-! ### small statements -/
def sNx : FS := fun e => some (.nx, e)
def sBk : FS := fun e => some (.bk, e)
def sCt : FS := fun e => some (.ct, e)
def bCons (A B : FS) : FS := fun e => (A e).bind fun p => match p.1 with
  | .nx => B p.2
  | .rt r => some (.rt r, p.2)
  | .bk => some (.bk, p.2)
  | .ct => some (.ct, p.2)
def sSet (i : Nat) (F : FE) : FS := fun e => (F e).bind fun p => if i < p.2.r.length then some (.nx, p.2.put i (some p.1.ent)) else none
def sRet (F : FE) : FS := fun e => (F e).bind fun p => some (.rt p.1, p.2)
def sRetN : FS := fun e => some (.rt (.val .none), e)
def sDrop (F : FE) : FS := fun e => (F e).bind fun p => some (.nx, p.2)
def sIf (T : FT) (A B : FS) : FS := fun e => (T e).bind fun p => if p.1 = true then A p.2 else B p.2
/-- return x, x a name: what it owns goes out -/
def sRetV (i : Nat) : FS := fun e => match e.r[i]? with
  | some (some (.val d)) => some (.rt (.val d), e.put i none)
  | some (some (.ol ds)) => some (.rt (.fl ds), e.put i none)
  | some (some (.od b kvs)) => some (.rt (.fd b kvs), e.put i none)
  | _ => none

section
variable {X : Cx} {s : Stmt} {ss : List Stmt} {x : Expr} {pos : Pos} {A B : FS}
theorem bd_nil : BD X [] sNx := by
  refine pssImp pss_nil fun D σ H w => ?_
  obtain ⟨C, G, own, ev, fl, e', R, hf, k⟩ := w
  cases hf
  exact k σ G own H Le.rfl' R
theorem bd_one (h : SD X s A) : BD X [s] A := pss_one h
theorem bd_cons (ha : SD X s A) (hb : BD X ss B) : BD X (s :: ss) (bCons A B) := by
  refine pssImp (pss_cons ha hb) fun D σ H w => ?_
  obtain ⟨C, G, own, ev, fl, e', R, hf, k⟩ := w
  obtain ⟨⟨f1, e1⟩, h1, h2⟩ := bind_some_of hf
  refine ⟨C, G, own, ev, f1, e1, R, h1, ?_⟩
  cases f1 with
  | nx => exact fun σ' G' own' H' l R' => ⟨C, G', own', e1, fl, e', R', h2, k.le l⟩
  | rt r => cases h2; exact k
  | bk => cases h2; exact k
  | ct => cases h2; exact k
theorem sd_pass : SD X (.Pass pos) sNx := by
  refine psImp ps_pass fun D σ H w => ?_
  obtain ⟨C, G, own, ev, fl, e', R, hf, k⟩ := w
  cases hf
  exact k σ G own H Le.rfl' R
theorem sd_break : SD X (.Break pos) sBk := by
  refine psImp ps_break fun D σ H w => ?_
  obtain ⟨C, G, own, ev, fl, e', R, hf, k⟩ := w
  cases hf
  exact k σ G own H Le.rfl' R
theorem sd_continue : SD X (.Continue pos) sCt := by
  refine psImp ps_continue fun D σ H w => ?_
  obtain ⟨C, G, own, ev, fl, e', R, hf, k⟩ := w
  cases hf
  exact k σ G own H Le.rfl' R
/-- a result goes to a name -/
theorem set_imp {K : PySem.W.Frag} {i : Nat} {F : FE} {D : Ends} {σ : L2.St} {H : Hp} (w : tS K (sSet i F) D σ H) : tAsg (tE K F) (gName i) D σ H := by
  obtain ⟨C, G, own, ev, fl, e', R, hf, k⟩ := w
  obtain ⟨⟨r, e1⟩, h1, h2⟩ := bind_some_of hf
  dsimp only at h2
  split at h2
  · rename_i hi
    cases h2
    refine ⟨C, G, own, ev, r, e1, R, h1, fun v G' own' H' l R' ok => ?_⟩
    obtain ⟨own2, R2, _⟩ := R'.store ok hi
    exact k _ G' own2 H' l R2
  · cases h2
theorem sd_set {i : Nat} {y : Str} {e : Expr} {F : FE} {pos' : Pos} (hN : X.N.Nodup) (hi : X.N[i]? = some y) (hx : Loc X.env.scope y) (he : ED X e F) (hs : swapsWith e (some (.Name y pos')) pos.line X.env = pure false := by rfl)
    (hf : X.fn y = true ∨ X.env.scope.names.lookup y = some .local := by first | exact .inl rfl | exact .inr rfl | assumption) : SD X (.Assign [.Name y pos'] e pos) (sSet i F) :=
  psImp (ps_set hN hi hx he hs hf) fun _ _ _ w => set_imp w
theorem sd_ret {F : FE} (h : ED X x F) : SD X (.Return (some x) pos) (sRet F) := by
  refine psImp (ps_ret h) fun D σ H w => ?_
  obtain ⟨C, G, own, ev, fl, e', R, hf, k⟩ := w
  obtain ⟨⟨r, e1⟩, h1, h2⟩ := bind_some_of hf
  cases h2
  exact ⟨C, G, own, ev, r, e1, R, h1, fun v G' own' H' l R' ok => k v σ G' own' H' l R' ok⟩
theorem sd_retN : SD X (.Return none pos) sRetN := by
  refine psImp ps_retN fun D σ H w => ?_
  obtain ⟨C, G, own, ev, fl, e', R, hf, k⟩ := w
  cases hf
  exact k .non σ G own H Le.rfl' R Rp.non
theorem sd_retV {i : Nat} (h : PE X x (tVar i)) : SD X (.Return (some x) pos) (sRetV i) := by
  refine psImp (ps_ret h) fun D σ H w => ?_
  obtain ⟨C, G, own, ev, fl, e', R, hf, k⟩ := w
  have key : ∀ (y : Ent) (r : Rs), ev.r[i]? = some (some y) → y = r.ent → FlOk X.K C G (ev.put i none) D (.rt r) → tRet (tVar i) D σ H := fun y r hy hr k => by
    obtain ⟨v, own', h1, R', ok⟩ := R.hand hy r hr
    exact ⟨v, h1, k v σ G own' H Le.rfl' R' ok⟩
  unfold sRetV at hf
  split at hf
  · rename_i hx; cases hf; exact key _ (.val _) hx rfl k
  · rename_i hx; cases hf; exact key _ (.fl _) hx rfl k
  · rename_i hx; cases hf; exact key _ (.fd _ _) hx rfl k
  · cases hf
theorem sd_expr {F : FE} (h : ED X x F) (hs : swapsWith x none pos.line X.env = pure false := by rfl) : SD X (.Expr x pos) (sDrop F) := by
  refine psImp (ps_expr h hs) fun D σ H w => ?_
  obtain ⟨C, G, own, ev, fl, e', R, hf, k⟩ := w
  obtain ⟨⟨r, e1⟩, h1, h2⟩ := bind_some_of hf
  cases h2
  exact ⟨C, G, own, ev, r, e1, R, h1, fun v G' own' H' l R' ok => k σ G' own' H' l R'⟩
theorem sd_if {c : Expr} {a b : List Stmt} {T : FT} (hc : TD X c T) (ha : BD X a A) (hb : BD X b B) : SD X (.If c a b pos) (sIf T A B) := by
  refine psImp (ps_if hc ha hb) fun D σ H w => ?_
  obtain ⟨C, G, own, ev, fl, e', R, hf, k⟩ := w
  obtain ⟨⟨d, e1⟩, h1, h2⟩ := bind_some_of hf
  refine ⟨C, G, own, ev, d, e1, R, h1, fun G1 own1 H1 l1 R1 => ?_⟩
  cases d with
  | true => exact iteT ⟨C, G1, own1, e1, fl, e', R1, h2, k.le l1⟩
  | false => exact iteF ⟨C, G1, own1, e1, fl, e', R1, h2, k.le l1⟩
/-- what the proof never comes to -/
def sNo : FS := fun _ => none
theorem sd_no : SD X s sNo := psImp ps_never fun _ _ _ w => by obtain ⟨C, G, own, ev, fl, e', R, hf, k⟩ := w; cases hf
theorem bd_no : BD X ss sNo := pssImp pss_never fun _ _ _ w => by obtain ⟨C, G, own, ev, fl, e', R, hf, k⟩ := w; cases hf
end

/-! ### targets -/
def gN (i : Nat) : FG := fun d e => if i < e.r.length then some (e.put i (some (.val d))) else none
abbrev FGs := List D → EE → Option EE
def gsNil : FGs := fun ds e => match ds with
  | [] => some e
  | _ => none
def gsCons (g : FG) (h : FGs) : FGs := fun ds e => match ds with
  | d :: ds => (g d e).bind (h ds)
  | [] => none
def gT (n : Nat) (h : FGs) : FG := fun d e => match d with
  | .tuple ds => if ds.length = n then h ds e else none
  | _ => none
def tGs (K : PySem.W.Frag) (F : FGs) : TGs := fun vs σ H Q => ∃ C G own e ds e', Rep K C G own e σ H ∧ RpA K G vs ds ∧ F ds e = some e' ∧
  ∀ σ' G' own' H', Le G G' → Rep K C G' own' e' σ' H' → Q σ' H'
abbrev GD (X : Cx) (e : Expr) (F : FG) := PG X e (tG X.K F)
section
variable {X : Cx} {pos : Pos}
theorem gd_name {i : Nat} {x : Str} (hN : X.N.Nodup) (hi : X.N[i]? = some x) (hx : Loc X.env.scope x) (hf : X.fn x = true ∨ X.env.scope.names.lookup x = some .local := by first | exact .inl rfl | exact .inr rfl | assumption) : GD X (.Name x pos) (gN i) := by
  refine pgImp (pg_name hN hi hx hf) fun v σ H Q w => ?_
  obtain ⟨C, G, own, e, d, e', R, r, hf, k⟩ := w
  unfold gN at hf
  split at hf
  · rename_i h; cases hf
    obtain ⟨own2, R2, _⟩ := R.store (r := .val d) r h
    exact k _ G own2 H Le.rfl' R2
  · cases hf
theorem gds_nil : PGs X [] (tGs X.K gsNil) := by
  refine ⟨fun pins s σ H vs us Q I r w => ?_⟩
  obtain ⟨C, G, own, e, ds, e', R, ra, hf, k⟩ := w
  unfold gsNil at hf
  split at hf
  · cases hf
    cases ra
    exact pgs_nil.run pins s σ H [] us Q I r ⟨rfl, k σ G own H Le.rfl' R⟩
  · cases hf
theorem gds_cons {e : Expr} {es : List Expr} {g : FG} {h : FGs} (h1 : GD X e g) (h2 : PGs X es (tGs X.K h))
    (hs : (assignEach (e :: es) X.env).map (·.2) = assign e X.env :: (assignEach es X.env).map (·.2) := by rfl) : PGs X (e :: es) (tGs X.K (gsCons g h)) := by
  refine ⟨fun pins s σ H vs us Q I r w => ?_⟩
  obtain ⟨C, G, own, ev, ds, e', R, ra, hf, k⟩ := w
  unfold gsCons at hf
  split at hf
  · rename_i d ds'
    obtain ⟨e1, q1, q2⟩ := bind_some_of hf
    cases ra with
    | cons r1 r2 =>
      exact (pgs_cons h1 h2 hs).run pins s σ H _ us Q I r ⟨_, _, rfl, C, G, own, ev, d, e1, R, r1, q1, fun σ' G' own' H' l R' => ⟨C, G', own', e1, ds', e', R', r2.mono l, q2, fun σ2 G2 own2 H2 l2 R2 => k σ2 G2 own2 H2 (l.tr l2) R2⟩⟩
  · cases hf
theorem gd_tup {es : List Expr} {k : Nat} {h : FGs} {n : Nat} (hc : X.calm = true) (hh : PGs X es (tGs X.K h))
    (hn : (assignEach es X.env).length = n := by rfl) (hst : (assignEach es X.env).findIdx? (·.1) = none := by rfl) : GD X (.Tuple es k pos) (gT n h) := by
  refine pgImp (pg_tup hc hh hn hst) fun v σ H Q w => ?_
  obtain ⟨C, G, own, e, d, e', R, r, hf, k⟩ := w
  unfold gT at hf
  split at hf
  · rename_i ds
    split at hf
    · rename_i hl
      obtain ⟨a, rfl⟩ := r.isRef
      obtain ⟨vs, hs, ra⟩ := r.sqT
      exact ⟨_, _, rfl, sqT_mono R.sub hs, by rw [ra.length]; exact hl, C, G, own, e, ds, e', R, ra, hf, k⟩
    · cases hf
  · cases hf
/-- target = value, the value frozen -/
def sAsg (F : FE) (g : FG) : FS := fun e => (F e).bind fun p => (g p.1.d p.2).bind fun e' => some (.nx, e')
theorem sd_asg {tg e : Expr} {F : FE} {g : FG} (he : ED X e F) (hg : GD X tg g) (hs : swapsWithSole [tg] e pos.line X.env = pure false := by rfl) (hw : swappedStores [tg] e X.env = pure none := by rfl)
    (h1 : (assignEach [tg] X.env).map (·.2) = [assign tg X.env] := by rfl) : SD X (.Assign [tg] e pos) (sAsg F g) := by
  refine psImp (ps_asg he hg hs hw h1) fun D σ H w => ?_
  obtain ⟨C, G, own, ev, fl, e', R, hf, k⟩ := w
  obtain ⟨⟨r, e1⟩, q1, q2⟩ := bind_some_of hf
  obtain ⟨e2, q3, q4⟩ := bind_some_of q2
  cases q4
  refine ⟨C, G, own, ev, r, e1, R, q1, fun v G1 own1 H1 l1 R1 ok => ?_⟩
  obtain ⟨G2, l2, R2, p⟩ := R1.frz ok
  exact ⟨C, G2, own1, e1, r.d, e', R2, p, q3, fun σ' G' own' H' l R' => k σ' G' own' H' (l1.tr (l2.tr l)) R'⟩
end

/-! ### loops -/
structure ItOk (K : PySem.W.Frag) (G : Hp) (J : It) (ds : List D) : Prop where
  go : ∀ G2 H2 (i : Nat) d, Le G G2 → Le G2 H2 → ds[i]? = some d → J.go i H2 ∧ ∀ x H3, J.yld i H2 x H3 → Grow K G2 H2 x (.val d) H3
  stop : ∀ G2 H2, Le G G2 → Le G2 H2 → J.stop ds.length H2
def tI (K : PySem.W.Frag) (I : FA) : TI := fun σ H R => ∃ C G own e ds e', Rep K C G own e σ H ∧ I e = some (ds, e') ∧
  ∀ J G' own' H', Le G G' → Rep K C G' own' e' σ H' → ItOk K G' J ds → R J H'
abbrev ID (X : Cx) (tg iter : Expr) (I : FA) := PI X tg iter (tI X.K I)
def forL (g : FG) (B : FS) : List D → EE → Option (Fl × EE)
  | [], e => some (.nx, e)
  | d :: ds, e => (g d e).bind fun e1 => (B e1).bind fun p => match p.1 with
    | .nx => forL g B ds p.2
    | .ct => forL g B ds p.2
    | .bk => some (.nx, p.2)
    | .rt r => some (.rt r, p.2)
def sFor (I : FA) (g : FG) (B : FS) : FS := fun e => (I e).bind fun p => forL g B p.1 p.2
def whL (T : FT) (B : FS) : Nat → EE → Option (Fl × EE)
  | 0, _ => none
  | n + 1, e => (T e).bind fun p => if p.1 = true then (B p.2).bind fun q => match q.1 with
    | .nx => whL T B n q.2
    | .ct => whL T B n q.2
    | .bk => some (.nx, q.2)
    | .rt r => some (.rt r, q.2) else some (.nx, p.2)
/-- a while: some number of turns is enough -/
def sWh (T : FT) (B : FS) (n : EE → Nat) : FS := fun e => whL T B (n e) e
section
variable {X : Cx} {tg iter : Expr} {pos : Pos}
theorem sd_for {body : List Stmt} {I : FA} {g : FG} {B : FS} (hp : PassesOwn (model X.prog X.w) X.A X.env X.xe) (hc : X.calm = true) (hi : ID X tg iter I) (hg : GD X tg g) (hb : BD X body B)
    (hs : ∀ x, foldedSetIterable iter X.env x = pure x := by intro _; rfl) : SD X (.For tg iter body [] pos) (sFor I g B) := by
  refine psImp (ps_for hp hc hi hg hb hs) fun D σ H w => ?_
  obtain ⟨C, G, own, ev, fl, e', R, hf, k⟩ := w
  obtain ⟨⟨ds, e1⟩, h1, h2⟩ := bind_some_of hf
  refine ⟨C, G, own, ev, ds, e1, R, h1, fun J G1 own1 H1 l1 R1 it => ?_⟩
  have k1 := k.le l1
  refine ⟨fun i m σ2 H2 => m = ds.length - i ∧ i ≤ ds.length ∧ ∃ G2 own2 e2, Le G1 G2 ∧ Rep X.K C G2 own2 e2 σ2 H2 ∧ forL g B (ds.drop i) e2 = some (fl, e'), ⟨ds.length, by simp, Nat.zero_le _, G1, own1, e1, Le.rfl', R1, by simpa using h2⟩, ?_⟩
  rintro i m σ2 H2 ⟨rfl, hi, G2, own2, e2, l2, R2, hq⟩
  by_cases hlt : i < ds.length
  · obtain ⟨d, hd⟩ : ∃ d, ds[i]? = some d := ⟨ds[i], by simp [hlt]⟩
    have hdr : ds.drop i = d :: ds.drop (i + 1) := by
      rw [List.drop_eq_getElem_cons hlt]
      have : ds[i] = d := by rw [List.getElem?_eq_getElem hlt] at hd; exact Option.some.inj hd
      rw [this]
    rw [hdr] at hq
    obtain ⟨e3, q3, q4⟩ := bind_some_of hq
    obtain ⟨⟨f4, e4⟩, q5, q6⟩ := bind_some_of q4
    obtain ⟨go, yl⟩ := it.go G2 H2 i d l2 R2.sub hd
    refine .inr ⟨go, fun σ' H' => ∃ G3 own3 e3', Le G1 G3 ∧ Rep X.K C G3 own3 e3' σ' H' ∧ forL g B (ds.drop (i + 1)) e3' = some (fl, e'), fun σ' H' ⟨G3, own3, e3', y1, y2, y3⟩ => ⟨ds.length - (i + 1), by omega, rfl, hlt, G3, own3, e3', y1, y2, y3⟩, fun x H3 hy => ?_⟩
    obtain ⟨G3, l3, R3, ok⟩ := R2.grow (yl x H3 hy)
    refine ⟨C, G3, own2, e2, d, e3, R3, ok, q3, fun σ4 G4 own4 H4 l4 R4 => ⟨C, G4, own4, e3, f4, e4, R4, q5, ?_⟩⟩
    have lx : Le G1 G4 := l2.tr (l3.tr l4)
    cases f4 with
    | nx => exact fun σ5 G5 own5 H5 l5 R5 => ⟨G5, own5, e4, lx.tr l5, R5, q6⟩
    | ct => exact fun σ5 G5 own5 H5 l5 R5 => ⟨G5, own5, e4, lx.tr l5, R5, q6⟩
    | bk => cases q6; exact fun σ5 G5 own5 H5 l5 R5 => k1 σ5 G5 own5 H5 (lx.tr l5) R5
    | rt r => cases q6; exact fun v σ5 G5 own5 H5 l5 R5 ok => k1 v σ5 G5 own5 H5 (lx.tr l5) R5 ok
  · have e : i = ds.length := by omega
    subst e
    rw [List.drop_length] at hq
    cases hq
    exact .inl ⟨it.stop G2 H2 l2 R2.sub, k1 σ2 G2 own2 H2 l2 R2⟩
theorem sd_wh {c : Expr} {body : List Stmt} {T : FT} {B : FS} {n : EE → Nat} (hp : PassesOwn (model X.prog X.w) X.A X.env X.xe) (hc : TD X c T) (hb : BD X body B) : SD X (.While c body [] pos) (sWh T B n) := by
  refine psImp (ps_while hp hc hb) fun D σ H w => ?_
  obtain ⟨C, G, own, ev, fl, e', R, hf, k⟩ := w
  refine ⟨fun m σ2 H2 => ∃ G2 own2 e2, Le G G2 ∧ Rep X.K C G2 own2 e2 σ2 H2 ∧ whL T B m e2 = some (fl, e'), ⟨n ev, G, own, ev, Le.rfl', R, hf⟩, ?_⟩
  rintro m σ2 H2 ⟨G2, own2, e2, l2, R2, hq⟩
  cases m with
  | zero => cases hq
  | succ m =>
    obtain ⟨⟨b, e3⟩, q1, q2⟩ := bind_some_of hq
    refine ⟨C, G2, own2, e2, b, e3, R2, q1, fun G3 own3 H3 l3 R3 => ?_⟩
    cases b with
    | false =>
      cases q2
      exact iteF (k σ2 G3 own3 H3 (l2.tr l3) R3)
    | true =>
      obtain ⟨⟨f4, e4⟩, q3, q4⟩ := bind_some_of q2
      refine iteT ⟨fun σ' H' => ∃ G3 own3 e3', Le G G3 ∧ Rep X.K C G3 own3 e3' σ' H' ∧ whL T B m e3' = some (fl, e'), fun σ' H' h => ⟨m, Nat.lt_succ_self m, h⟩, C, G3, own3, e3, f4, e4, R3, q3, ?_⟩
      have lx : Le G G3 := l2.tr l3
      cases f4 with
      | nx => exact fun σ5 G5 own5 H5 l5 R5 => ⟨G5, own5, e4, lx.tr l5, R5, q4⟩
      | ct => exact fun σ5 G5 own5 H5 l5 R5 => ⟨G5, own5, e4, lx.tr l5, R5, q4⟩
      | bk => cases q4; exact fun σ5 G5 own5 H5 l5 R5 => k σ5 G5 own5 H5 (lx.tr l5) R5
      | rt r => cases q4; exact fun v σ5 G5 own5 H5 l5 R5 ok => k v σ5 G5 own5 H5 (lx.tr l5) R5 ok
/-- a list, a tuple walked: frozen -/
def iSeq (F : FE) : FA := fun e => (F e).bind fun p => (seqD p.1.d).bind fun ds => some (ds, p.2)
theorem it_list {K : PySem.W.Frag} {G : Hp} {a : Addr} {vs : List V} {ds : List D} (h : SqL K G a vs) (r : RpA K G vs ds) : ItOk K G (Itl K a) ds where
  go := fun G2 H2 i d l1 l2 hd => by
    obtain ⟨v, hv, rv⟩ := r.get hd
    refine ⟨⟨vs, v, sqL_mono (l1.tr l2) h, hv⟩, fun x H3 hy => ?_⟩
    obtain ⟨rfl, y⟩ := hy
    have := y vs (sqL_mono (l1.tr l2) h)
    rw [hv] at this; cases this
    exact .same (rv.mono l1)
  stop := fun G2 H2 l1 l2 => ⟨vs, sqL_mono (l1.tr l2) h, by rw [r.length]; exact Nat.le_refl _⟩
theorem it_tuple {K : PySem.W.Frag} {G : Hp} {a : Addr} {vs : List V} {ds : List D} (h : SqT K G a vs) (r : RpA K G vs ds) : ItOk K G (Itt K a) ds where
  go := fun G2 H2 i d l1 l2 hd => by
    obtain ⟨v, hv, rv⟩ := r.get hd
    refine ⟨⟨vs, v, sqT_mono (l1.tr l2) h, hv⟩, fun x H3 hy => ?_⟩
    obtain ⟨rfl, y⟩ := hy
    have := y vs (sqT_mono (l1.tr l2) h)
    rw [hv] at this; cases this
    exact .same (rv.mono l1)
  stop := fun G2 H2 l1 l2 => ⟨vs, sqT_mono (l1.tr l2) h, by rw [r.length]; exact Nat.le_refl _⟩
theorem id_seq {F : FE} (h : ED X iter F) : ID X tg iter (iSeq F) := by
  refine ⟨fun pins s σ H Q I w => ?_⟩
  obtain ⟨C, G, own, ev, ds, e', R, hf, k⟩ := w
  obtain ⟨⟨r, e1⟩, q1, q2⟩ := bind_some_of hf
  obtain ⟨ds', q3, q4⟩ := bind_some_of q2
  cases q4
  cases y : r.d with
  | list xs =>
    refine (pi_list h).run pins s σ H Q I ⟨C, G, own, ev, r, e1, R, q1, fun v G1 own1 H1 l1 R1 ok => ?_⟩
    obtain ⟨G2, l2, R2, p⟩ := R1.frz ok
    rw [y] at p
    dsimp only at q3
    rw [y] at q3
    cases q3
    cases p with
    | lst hs ra => exact ⟨_, rfl, ⟨_, .of (R2.sub _ _ hs)⟩, k _ G2 own1 H1 (l1.tr l2) R2 (it_list (.of hs) ra)⟩
  | tuple xs =>
    refine (pi_tup h).run pins s σ H Q I ⟨C, G, own, ev, r, e1, R, q1, fun v G1 own1 H1 l1 R1 ok => ?_⟩
    obtain ⟨G2, l2, R2, p⟩ := R1.frz ok
    rw [y] at p
    dsimp only at q3
    rw [y] at q3
    cases q3
    obtain ⟨a, rfl⟩ := p.isRef
    obtain ⟨vs, hs, ra⟩ := p.sqT
    exact ⟨_, rfl, ⟨_, sqT_mono R2.sub hs⟩, k _ G2 own1 H1 (l1.tr l2) R2 (it_tuple hs ra)⟩
  | _ => dsimp only at q3; rw [y] at q3; cases q3
/-- range(n), range(a, b) -/
def rgL (lo : Int) (n : Nat) : List D := (List.range n).map fun (k : Nat) => .int (lo + (k : Int))
def inW (i : Int) : Bool := hide (-(2 ^ 62) ≤ i ∧ i < 2 ^ 62)
def iRg1 (A : FOs) : FA := fun e => (A e).bind fun p => (p.1 p.2).bind fun ds => match ds with
  | [.int j] => if inW j = true then some (rgL 0 j.toNat, p.2) else none
  | _ => none
def iRg2 (A : FOs) : FA := fun e => (A e).bind fun p => (p.1 p.2).bind fun ds => match ds with
  | [.int i, .int j] => if (inW i && inW j) = true then some (rgL i (j - i).toNat, p.2) else none
  | _ => none
theorem it_range {K : PySem.W.Frag} {G : Hp} (lo : Int) (n : Nat) : ItOk K G (Itr lo n) (rgL lo n) where
  go := fun G2 H2 i d l1 l2 hd => by
    have hi : i < n := by have := ltOf hd; simpa [rgL] using this
    have e : d = .int (lo + i) := by
      have : (rgL lo n)[i]? = some (.int (lo + i)) := by simp [rgL, hi]
      rw [this] at hd; exact (Option.some.inj hd).symm
    subst e
    refine ⟨hi, fun x H3 hy => ?_⟩
    obtain ⟨rfl, rfl⟩ := hy
    exact .same (.int _)
  stop := fun G2 H2 l1 l2 => by show n ≤ (rgL lo n).length; simp [rgL]
theorem RrA.int1 {K : PySem.W.Frag} {G H : Hp} {vs : List V} {j : Int} (h : RrA K G H vs [.int j]) : vs = [.int j] := by
  cases h with
  | cons h1 h2 =>
    cases h2
    cases h1 with
    | frz h => cases h; rfl
theorem RrA.int2 {K : PySem.W.Frag} {G H : Hp} {vs : List V} {i j : Int} (h : RrA K G H vs [.int i, .int j]) : vs = [.int i, .int j] := by
  cases h with
  | cons h1 h2 =>
    rw [h2.int1]
    cases h1 with
    | frz h => cases h; rfl
theorem id_rg1 {a : Expr} {A : FOs} {p pos : Pos} (hg : Gl X "range") (hm : X.mg "range" = none) (ha : PA X [a] (tOs X.K A)) (hs : starEach [a] X.env = [(false, eval a X.env)] := by rfl) : ID X tg (.Call (.Name "range" p) [a] [] pos) (iRg1 A) := by
  refine ⟨fun pins s σ H Q I w => ?_⟩
  obtain ⟨C, G, own, ev, ds, e', R, hf, k⟩ := w
  obtain ⟨⟨t, e1⟩, q1, q2⟩ := bind_some_of hf
  obtain ⟨xs, q3, q4⟩ := bind_some_of q2
  refine (pi_range1 hg hm ha hs).run pins s σ H Q I ⟨C, G, own, ev, t, e1, R, q1, fun vs G1 own1 H1 l1 R1 g => ?_⟩
  have ra := g _ _ _ _ _ Le.rfl' R1 q3
  split at q4
  · rename_i j
    split at q4
    · rename_i hj
      cases q4
      obtain ⟨b1, b2⟩ := unhide hj
      exact ⟨j, ra.int1, b1, b2, k _ G1 own1 H1 l1 R1 (it_range 0 _)⟩
    · cases q4
  · cases q4
theorem id_rg2 {a b : Expr} {A : FOs} {p pos : Pos} (hg : Gl X "range") (hm : X.mg "range" = none) (ha : PA X [a, b] (tOs X.K A)) (hs : starEach [a, b] X.env = [(false, eval a X.env), (false, eval b X.env)] := by rfl) (hs2 : starEach [b] X.env = [(false, eval b X.env)] := by rfl) :
    ID X tg (.Call (.Name "range" p) [a, b] [] pos) (iRg2 A) := by
  refine ⟨fun pins s σ H Q I w => ?_⟩
  obtain ⟨C, G, own, ev, ds, e', R, hf, k⟩ := w
  obtain ⟨⟨t, e1⟩, q1, q2⟩ := bind_some_of hf
  obtain ⟨xs, q3, q4⟩ := bind_some_of q2
  refine (pi_range2 hg hm ha hs hs2).run pins s σ H Q I ⟨C, G, own, ev, t, e1, R, q1, fun vs G1 own1 H1 l1 R1 g => ?_⟩
  have ra := g _ _ _ _ _ Le.rfl' R1 q3
  split at q4
  · rename_i i j
    split at q4
    · rename_i hj
      cases q4
      rw [Bool.and_eq_true] at hj
      obtain ⟨b1, b2⟩ := unhide hj.1
      obtain ⟨b3, b4⟩ := unhide hj.2
      exact ⟨i, j, ra.int2, ⟨b1, b2, b3, b4⟩, k _ G1 own1 H1 l1 R1 (it_range i _)⟩
    · cases q4
  · cases q4
end
end EL
/-! EL4: comprehensions, defs and their calls. -/
namespace EL
open PySem PySem.Spec PyProof.Rows L2
variable [KC]

/-! ### slots wiped and given back -/
def wipeE (e : EE) : List Nat → EE
  | [] => e
  | v :: vs => (wipeE e vs).put v none
def keepV : Option (Option Ent) → Option Ent
  | some (some (.val d)) => some (.val d)
  | _ => none
def restE (e0 : EE) : EE → List Nat → EE
  | e2, [] => e2
  | e2, v :: vs => restE e0 (e2.put v (if vs.contains v then none else keepV e0.r[v]?)) vs
section
variable {K : PySem.W.Frag} {C : Cn} {G G' H : Hp} {own : Nat → Option Addr} {e e' : EE} {σ : L2.St} {v : V} {r : Rs}
theorem Rep.wipe1 (R : Rep K C G own e σ H) (i : Nat) : Rep K C G (fun j => if j = i then none else own j) (e.put i none) (σ.set i none) H := by
  have F := R.forget i
  refine ⟨F.sub, F.ext, F.new, F.frm, by simp [EE.put, R.len], fun j x h => ?_, F.ofr, F.inj, F.thr, F.src⟩
  obtain ⟨v, h1, h2⟩ := F.slot j x h
  by_cases z : j = i
  · subst z
    exfalso
    have : (e.r.set j none)[j]? = some (some x) := h
    by_cases y : j < e.r.length
    · simp [y] at this
    · rw [List.getElem?_eq_none (by simp; omega)] at this; cases this
  · exact ⟨v, by rw [List.getElem?_set_ne (Ne.symm z)]; exact h1, h2⟩
theorem Rep.wipeAll (R : Rep K C G own e σ H) : ∀ vs : List Nat, ∃ own', Rep K C G own' (wipeE e vs) (wipe σ vs) H ∧ ∀ i a, own' i = some a → own i = some a
  | [] => ⟨own, R, fun _ _ h => h⟩
  | v :: vs => by
    obtain ⟨own', R', k⟩ := R.wipeAll vs
    refine ⟨_, R'.wipe1 v, fun i a h => ?_⟩
    by_cases z : i = v
    · simp [z] at h
    · simp [z] at h; exact k i a h
theorem Rep.back1 {i : Nat} (R : Rep K C G own e (σ.set i none) H) {x : Option Ent} (hx : x = none ∨ ∃ d v, x = some (.val d) ∧ σ[i]? = some (some v) ∧ Rp K G v d) : Rep K C G (fun j => if j = i then none else own j) (e.put i x) σ H := by
  have F := R.forget i
  refine ⟨F.sub, F.ext, F.new, F.frm, by simpa [EE.put] using R.len, fun j y h => ?_, F.ofr, F.inj, F.thr, F.src⟩
  have h : (e.r.set i x)[j]? = some (some y) := h
  by_cases z : j = i
  · subst z
    by_cases q : j < e.r.length
    · simp [q] at h
      rcases hx with hx | ⟨d, v, hx, hv, rp⟩
      · rw [hx] at h; cases h
      · rw [hx] at h; cases h; exact ⟨v, hv, rp⟩
    · rw [List.getElem?_eq_none (by simp; omega)] at h; cases h
  · rw [List.getElem?_set_ne (Ne.symm z)] at h
    obtain ⟨v, h1, h2⟩ := F.slot j y (by show (e.r.set i none)[j]? = _; rw [List.getElem?_set_ne (Ne.symm z)]; exact h)
    exact ⟨v, by rw [List.getElem?_set_ne (Ne.symm z)] at h1; exact h1, h2⟩
theorem Rep.backAll {e0 : EE} {G0 : Hp} {own0 : Nat → Option Addr} {H0 : Hp} (R0 : Rep K C G0 own0 e0 σ H0) (l : Le G0 G) : ∀ (vs : List Nat) (e2 : EE) (own2 : Nat → Option Addr), Rep K C G own2 e2 (wipe σ vs) H →
    ∃ own', Rep K C G own' (restE e0 e2 vs) σ H ∧ ∀ i a, own' i = some a → own2 i = some a
  | [], e2, own2, R => ⟨own2, R, fun _ _ h => h⟩
  | v :: vs, e2, own2, R => by
    have key : (if vs.contains v then none else keepV e0.r[v]?) = none ∨ ∃ d u, (if vs.contains v then none else keepV e0.r[v]?) = some (.val d) ∧ (wipe σ vs)[v]? = some (some u) ∧ Rp K G u d := by
      by_cases z : vs.contains v = true
      · exact .inl (by rw [if_pos z])
      · rw [if_neg z]
        have nz : v ∉ vs := fun y => z (by simpa using y)
        rw [wipe_out nz]
        unfold keepV
        split
        · rename_i d hd
          obtain ⟨u, h1, h2⟩ := R0.slot v _ hd
          exact .inr ⟨d, u, rfl, h1, Rp.mono l h2⟩
        · exact .inl rfl
    have R1 := Rep.back1 (σ := wipe σ vs) R key
    obtain ⟨own', R', k⟩ := Rep.backAll R0 l vs _ _ R1
    refine ⟨own', R', fun i a h => ?_⟩
    have q := k i a h
    by_cases z : i = v
    · simp [z] at q
    · simp [z] at q; exact q
theorem wipe_idem (σ : L2.St) : ∀ vs : List Nat, wipe (wipe σ vs) vs = wipe σ vs := by
  intro vs
  apply List.ext_getElem?
  intro i
  by_cases h : i ∈ vs
  · have key : ∀ (τ : L2.St) (vs : List Nat), i ∈ vs → (wipe τ vs)[i]? = if i < τ.length then some none else none := by
      intro τ vs
      induction vs with
      | nil => intro h; cases h
      | cons v vs ih =>
        intro h
        unfold wipe
        by_cases z : v = i
        · subst z
          by_cases y : v < τ.length
          · simp [wipe_length, y]
          · simp [wipe_length, y]
        · rw [List.getElem?_set_ne z]
          exact ih ((List.mem_cons.mp h).resolve_left (fun q => z q.symm))
    rw [key _ _ h, key _ _ h, wipe_length]
  · rw [wipe_out h]
theorem wipe_set (σ : L2.St) {i : Nat} {x : Option V} : ∀ {vs : List Nat}, i ∈ vs → wipe (σ.set i x) vs = wipe σ vs
  | v :: vs, h => by
    unfold wipe
    by_cases z : i = v
    · subst z
      have : ∀ vs : List Nat, (wipe (σ.set i x) vs).set i none = (wipe σ vs).set i none := by
        intro vs
        induction vs with
        | nil => simp [wipe]
        | cons w ws ih =>
          unfold wipe
          by_cases y : w = i
          · subst y; simp [ih]
          · rw [List.set_comm _ _ y, ih, List.set_comm _ _ (Ne.symm y)]
      exact this vs
    · rw [wipe_set σ ((List.mem_cons.mp h).resolve_left z)]
/-- a cell that nobody has is changed -/
theorem Rep.poke (R : Rep K C G own e σ H) {p : Addr} {o : HO} (g : G p = none) (h0 : C.H0 p = none) (no : ∀ i, own i ≠ some p) : Rep K C G own e σ (upd H p o) := by
  have ns : ∀ q, C.so = some q → p ≠ q.1 ∧ p ≠ q.2 := fun q hq => ⟨fun z => (R.src q hq).2.2.2.1 (z ▸ h0), fun z => (R.src q hq).2.2.2.2 (z ▸ h0)⟩
  refine ⟨fun a u h => ?_, R.ext, R.new, fun a u h k => ?_, R.len, fun i x h => ?_, R.ofr, R.inj, fun i a h => ?_, fun q hq => ?_⟩
  · rw [upd_ne (fun z => by rw [z, g] at h; cases h)]; exact R.sub a u h
  · rw [upd_ne (fun z => by rw [z, h0] at h; cases h)]; exact R.frm a u h k
  · obtain ⟨v, h1, h2⟩ := R.slot i x h
    exact ⟨v, h1, h2.keep Le.rfl' rfl fun a ha => upd_ne fun z => no i (z ▸ ha)⟩
  · have y : a ≠ p := fun z => no i (by rw [← z]; exact h)
    rw [upd_ne y]; exact R.thr i a h
  · obtain ⟨⟨h1, h2⟩, h3⟩ := R.src q hq
    exact ⟨⟨by rw [upd_ne (Ne.symm (ns q hq).1)]; exact h1, by rw [upd_ne (Ne.symm (ns q hq).2)]; exact h2⟩, h3⟩
end

/-! ### targets, with the slots that they may change -/
def tGv (K : PySem.W.Frag) (F : FG) (vs : List Nat) : TG := fun v σ H Q => ∃ C G own e d e', Rep K C G own e σ H ∧ Rp K G v d ∧ F d e = some e' ∧
  ∀ σ' G' own' H', wipe σ' vs = wipe σ vs → Le G G' → Rep K C G' own' e' σ' H' → Q σ' H'
def tGsv (K : PySem.W.Frag) (F : FGs) (us : List Nat) : TGs := fun vs σ H Q => ∃ C G own e ds e', Rep K C G own e σ H ∧ RpA K G vs ds ∧ F ds e = some e' ∧
  ∀ σ' G' own' H', wipe σ' us = wipe σ us → Le G G' → Rep K C G' own' e' σ' H' → Q σ' H'
abbrev GV (X : Cx) (e : Expr) (F : FG) (vs : List Nat) := PG X e (tGv X.K F vs)
section
variable {X : Cx} {pos : Pos} {us : List Nat}
theorem gv_name {i : Nat} {x : Str} (hN : X.N.Nodup) (hi : X.N[i]? = some x) (hx : Loc X.env.scope x) (hu : i ∈ us) (hf : X.fn x = true ∨ X.env.scope.names.lookup x = some .local := by first | exact .inl rfl | exact .inr rfl | assumption) : GV X (.Name x pos) (gN i) us := by
  refine pgImp (pg_name hN hi hx hf) fun v σ H Q w => ?_
  obtain ⟨C, G, own, e, d, e', R, r, hf, k⟩ := w
  unfold gN at hf
  split at hf
  · rename_i h; cases hf
    obtain ⟨own2, R2, _⟩ := R.store (r := .val d) r h
    exact k _ G own2 H (wipe_set σ hu) Le.rfl' R2
  · cases hf
theorem gvs_nil : PGs X [] (tGsv X.K gsNil us) := by
  refine ⟨fun pins s σ H vs us Q I r w => ?_⟩
  obtain ⟨C, G, own, e, ds, e', R, ra, hf, k⟩ := w
  unfold gsNil at hf
  split at hf
  · cases hf
    cases ra
    exact pgs_nil.run pins s σ H [] us Q I r ⟨rfl, k σ G own H rfl Le.rfl' R⟩
  · cases hf
theorem gvs_cons {e : Expr} {es : List Expr} {g : FG} {h : FGs} (h1 : GV X e g us) (h2 : PGs X es (tGsv X.K h us))
    (hs : (assignEach (e :: es) X.env).map (·.2) = assign e X.env :: (assignEach es X.env).map (·.2) := by rfl) : PGs X (e :: es) (tGsv X.K (gsCons g h) us) := by
  refine ⟨fun pins s σ H vs us' Q I r w => ?_⟩
  obtain ⟨C, G, own, ev, ds, e', R, ra, hf, k⟩ := w
  unfold gsCons at hf
  split at hf
  · rename_i d ds'
    obtain ⟨e1, q1, q2⟩ := bind_some_of hf
    cases ra with
    | cons r1 r2 =>
      exact (pgs_cons h1 h2 hs).run pins s σ H _ us' Q I r ⟨_, _, rfl, C, G, own, ev, d, e1, R, r1, q1, fun σ' G' own' H' y1 l R' => ⟨C, G', own', e1, ds', e', R', r2.mono l, q2, fun σ2 G2 own2 H2 y2 l2 R2 => k σ2 G2 own2 H2 (y2.trans y1) (l.tr l2) R2⟩⟩
  · cases hf
theorem gv_tup {es : List Expr} {k : Nat} {h : FGs} {n : Nat} (hc : X.calm = true) (hh : PGs X es (tGsv X.K h us))
    (hn : (assignEach es X.env).length = n := by rfl) (hst : (assignEach es X.env).findIdx? (·.1) = none := by rfl) : GV X (.Tuple es k pos) (gT n h) us := by
  refine pgImp (pg_tup hc hh hn hst) fun v σ H Q w => ?_
  obtain ⟨C, G, own, e, d, e', R, r, hf, k⟩ := w
  unfold gT at hf
  split at hf
  · rename_i ds
    split at hf
    · rename_i hl
      obtain ⟨a, rfl⟩ := r.isRef
      obtain ⟨vs, hs, ra⟩ := r.sqT
      exact ⟨_, _, rfl, sqT_mono R.sub hs, by rw [ra.length]; exact hl, C, G, own, e, ds, e', R, ra, hf, k⟩
    · cases hf
  · cases hf
end

/-! ### list comprehensions -/
def compL (vs : List Nat) (g : FG) (t : FT) (F : FE) : List D → EE → Option (List D × EE)
  | [], e => some ([], e)
  | d :: ds, e => (g d e).bind fun e1 => (t e1).bind fun p => if p.1 = true then (F p.2).bind fun q => (compL vs g t F ds (wipeE q.2 vs)).bind fun z => some (q.1.d :: z.1, z.2) else compL vs g t F ds (wipeE p.2 vs)
def eComp (vs : List Nat) (I : FA) (g : FG) (t : FT) (F : FE) : FE := fun e => (I e).bind fun p => (compL vs g t F p.1 (wipeE p.2 vs)).bind fun z => if small z.1.length = true then some (.fl z.1, restE p.2 z.2 vs) else none
def tYs : FT := fun e => some (true, e)
section
variable {X : Cx}
theorem lc_imp {K : PySem.W.Frag} {vs : List Nat} {I : FA} {g : FG} {t : FT} {F : FE} {σ : L2.St} {H : Hp} {Q : VK} (w : tE K (eComp vs I g t F) σ H Q) : tLc (tI K I) (tGv K g vs) (tTst K t) (tE K F) vs σ H Q := by
  obtain ⟨C, G, own, ev, r, e', R, hf, k⟩ := w
  obtain ⟨⟨ds, e1⟩, q1, q2⟩ := bind_some_of hf
  obtain ⟨⟨out, e2⟩, q3, q4⟩ := bind_some_of q2
  dsimp only at q3 q4
  split at q4
  · rename_i hz
    cases q4
    refine ⟨C, G, own, ev, ds, e1, R, q1, fun J G1 own1 H1 l1 R1 it A hA => ?_⟩
    obtain ⟨ownw, Rw, kw⟩ := R1.wipeAll vs
    refine ⟨fun i m H2 => m = ds.length - i ∧ i ≤ ds.length ∧ ∃ G2 own2 e3 acc rest, Le G1 G2 ∧ Rep K C G2 own2 e3 (wipe σ vs) H2 ∧ RsOk K C G2 own2 H2 (.ref A) (.fl acc) ∧ compL vs g t F (ds.drop i) e3 = some (rest, e2) ∧ acc ++ rest = out,
      ⟨ds.length, by simp, Nat.zero_le _, G1, ownw, wipeE e1 vs, [], out, Le.rfl', Rw.alloc hA, ⟨A, [], rfl, upd_same, .nil, R1.gnone hA, R1.h0none hA, Rw.notOwn hA⟩, by simpa using q3, rfl⟩, ?_⟩
    rintro i m H2 ⟨rfl, hi, G2, own2, e3, acc, rest, l2, R2, ok2, hq, he⟩
    by_cases hlt : i < ds.length
    · obtain ⟨d, hd⟩ : ∃ d, ds[i]? = some d := ⟨ds[i], by simp [hlt]⟩
      have hdr : ds.drop i = d :: ds.drop (i + 1) := by
        rw [List.drop_eq_getElem_cons hlt]
        have : ds[i] = d := by rw [List.getElem?_eq_getElem hlt] at hd; exact Option.some.inj hd
        rw [this]
      rw [hdr] at hq
      obtain ⟨e4, y1, y2⟩ := bind_some_of hq
      obtain ⟨⟨b, e5⟩, y3, y4⟩ := bind_some_of y2
      obtain ⟨C', _, _, _, R2', back⟩ := R2.aside ok2
      obtain ⟨go, yl⟩ := it.go G2 H2 i d l2 R2.sub hd
      refine .inr ⟨go, fun H' => ∃ G3 own3 e3' acc' rest', Le G1 G3 ∧ Rep K C G3 own3 e3' (wipe σ vs) H' ∧ RsOk K C G3 own3 H' (.ref A) (.fl acc') ∧ compL vs g t F (ds.drop (i + 1)) e3' = some (rest', e2) ∧ acc' ++ rest' = out,
        fun H' ⟨G3, own3, e3', acc', rest', z1, z2, z3, z4, z5⟩ => ⟨ds.length - (i + 1), by omega, rfl, hlt, G3, own3, e3', acc', rest', z1, z2, z3, z4, z5⟩, fun x H3 hy => ?_⟩
      obtain ⟨G3, l3, R3, ok⟩ := R2'.grow (yl x H3 hy)
      refine ⟨C', G3, own2, e3, d, e4, R3, ok, y1, fun σ4 G4 own4 H4 w4 l4 R4 => ⟨by rw [w4]; exact wipe_idem σ vs, C', G4, own4, e4, b, e5, R4, y3, fun G5 own5 H5 l5 R5 => ?_⟩⟩
      have hw : wipe σ4 vs = wipe σ vs := by rw [w4]; exact wipe_idem σ vs
      cases b with
      | false =>
        dsimp only at y4
        rw [if_neg Bool.false_ne_true] at y4
        have lx : Le G2 G5 := l3.tr (l4.tr l5)
        obtain ⟨R5c, ok5⟩ := back G5 own5 e5 σ4 H5 lx R5
        obtain ⟨own6, R6, k6⟩ := R5c.wipeAll vs
        rw [hw] at R6
        refine iteF ⟨G5, own6, wipeE e5 vs, acc, rest, l2.tr lx, R6, ok5.le Le.rfl' fun p u hp hg h0 ho hu => ⟨hu, hg, h0, fun j z => ho j (k6 j p z)⟩, y4, he⟩
      | true =>
        dsimp only at y4
        rw [if_pos rfl] at y4
        obtain ⟨⟨re, e6⟩, y5, y6⟩ := bind_some_of y4
        obtain ⟨⟨rest', e7⟩, y7, y8⟩ := bind_some_of y6
        cases y8
        refine iteT ⟨C', G5, own5, e5, re, e6, R5, y5, fun y G6 own6 H6 l6 R6 ok6 => ?_⟩
        obtain ⟨G7, l7, R7, p7⟩ := R6.frz ok6
        have lx : Le G2 G7 := l3.tr (l4.tr (l5.tr (l6.tr l7)))
        obtain ⟨R7c, ok7⟩ := back G7 own6 e6 σ4 H6 lx R7
        obtain ⟨p, ws, hp, h1, h2, h3, h4, h5⟩ := ok7
        cases hp
        have hln : acc.length + 1 ≤ 16777216 := by
          have : out.length ≤ 16777216 := unhide hz
          rw [← he] at this
          simp only [List.length_append, List.length_cons] at this
          omega
        refine ⟨ws, h1, by rw [h2.length, sizeLine_eq]; omega, ?_⟩
        obtain ⟨own8, R8, k8⟩ := (R7c.poke (o := .lst (ws ++ [y])) h3 h4 h5).wipeAll vs
        rw [hw] at R8
        exact ⟨G7, own8, wipeE e6 vs, acc ++ [re.d], rest', l2.tr lx, R8, ⟨A, ws ++ [y], rfl, upd_same, h2.append (.cons p7 .nil), h3, h4, fun j z => h5 j (k8 j A z)⟩, y7, by simpa using he⟩
    · have e : i = ds.length := by omega
      subst e
      rw [List.drop_length] at hq
      cases hq
      rw [List.append_nil] at he
      subst he
      obtain ⟨own9, R9, k9⟩ := Rep.backAll R1 l2 vs e2 own2 R2
      exact .inl ⟨it.stop G2 H2 l2 R2.sub, k _ G2 own9 H2 (l1.tr l2) R9 (ok2.le Le.rfl' fun p u hp hg h0 ho hu => ⟨hu, hg, h0, fun j z => ho j (k9 j p z)⟩)⟩
  · cases q4
theorem pts_yes : PTs X [] (tTst X.K tYs) := by
  refine ⟨fun pins s σ H Q I w => ?_⟩
  obtain ⟨C, G, own, ev, b, e', R, hf, k⟩ := w
  cases hf
  exact pts_nil.run pins s σ H Q I (k G own H Le.rfl' R)
theorem ed_lc {elt tg iter : Expr} {ifs : List Expr} {scope : Scope} {own : List (Str × Nat)} {pos : Pos} {I : FA} {g : FG} {t : FT} {F : FE} (hc : X.calm = true) (hN : X.N.Nodup) (hi : ID X tg iter I) (ok : BlkOk X.N X.env.scope scope own)
    (hg : ∀ (s : Shared) (H : Hp) (C : Addr) (cl : List (Str × Addr)) (fp : List Addr), GV (X.blk s H scope (compEnvC scope cl C X.env) fp) tg g (own.map (·.2)))
    (ht : ∀ (s : Shared) (H : Hp) (C : Addr) (cl : List (Str × Addr)) (fp : List Addr), PTs (X.blk s H scope (compEnvC scope cl C X.env) fp) ifs (tTst X.K t))
    (he : ∀ (s : Shared) (H : Hp) (C : Addr) (cl : List (Str × Addr)) (fp : List Addr), ED (X.blk s H scope (compEnvC scope cl C X.env) fp) elt F)
    (hs : ∀ x, foldedSetIterable iter X.env x = pure x := by intro _; rfl) : ED X (.ListComp elt [⟨tg, iter, ifs, 0⟩] scope pos) (eComp (own.map (·.2)) I g t F) :=
  peImp (pe_lc hc hN hi ok hg ht he hs) fun _ _ _ w => lc_imp w
/-- name = [..], the name a local -/
theorem sd_setLc {i : Nat} {y : Str} {py : Pos} {elt tg iter : Expr} {ifs : List Expr} {scope : Scope} {own : List (Str × Nat)} {pos spos : Pos} {I : FA} {g : FG} {t : FT} {F : FE} (hc : X.calm = true) (hN : X.N.Nodup) (hy : X.N[i]? = some y) (hyl : X.env.scope.names.lookup y = some .local)
    (hsw : swapsWith (.ListComp elt [⟨tg, iter, ifs, 0⟩] scope pos) (some (.Name y py)) spos.line X.env = pure true) (hi : ID X tg iter I) (ok : BlkOk X.N X.env.scope scope own)
    (hg : ∀ (s : Shared) (H : Hp) (C : Addr) (cl : List (Str × Addr)) (fp : List Addr), GV (X.blk s H scope (compEnvC scope cl C X.env) fp) tg g (own.map (·.2)))
    (ht : ∀ (s : Shared) (H : Hp) (C : Addr) (cl : List (Str × Addr)) (fp : List Addr), PTs (X.blk s H scope (compEnvC scope cl C X.env) fp) ifs (tTst X.K t))
    (he : ∀ (s : Shared) (H : Hp) (C : Addr) (cl : List (Str × Addr)) (fp : List Addr), ED (X.blk s H scope (compEnvC scope cl C X.env) fp) elt F)
    (hs : ∀ x, foldedSetIterable iter X.env x = pure x := by intro _; rfl) : SD X (.Assign [.Name y py] (.ListComp elt [⟨tg, iter, ifs, 0⟩] scope pos) spos) (sSet i (eComp (own.map (·.2)) I g t F)) :=
  psImp (ps_setLc hc hN hy hyl hsw hi ok hg ht he hs) fun D σ H w => lc_imp (set_imp w)
end

/-! ### defs -/
def RsNew (K : PySem.W.Frag) (G' H H' : Hp) (v : V) : Rs → Prop
  | .val d => Rp K G' v d
  | .fl ds => ∃ p vs, v = .ref p ∧ H' p = some (.lst vs) ∧ RpA K G' vs ds ∧ G' p = none ∧ H p = none
  | .fd b kvs => ∃ p, v = .ref p ∧ OdOk K G' H' p b kvs ∧ G' p = none ∧ H p = none
abbrev NewG (G G' H : Hp) : Prop := ∀ a, G' a ≠ none → G a ≠ none ∨ H a = none
def spD (K : PySem.W.Frag) (φ : List D → Option Rs) : Sp := fun vs H Q _ => ∃ G ds r, Le G H ∧ RpA K G vs ds ∧ φ ds = some r ∧
  ∀ v G' H', Le G G' → Le G' H' → NewG G G' H → Le H H' → RsNew K G' H H' v r → Q v H'
def spS (K : PySem.W.Frag) (φ : List D → Src → Option (Rs × Src)) : Sp := fun vs H Q _ => ∃ q us S G ds r S', vs = .ref q.1 :: us ∧ SrcOk H q S ∧ G q.1 = none ∧ G q.2 = none ∧ Le G H ∧ RpA K G us ds ∧ φ ds S = some (r, S') ∧
  ∀ v G' H', Le G G' → Le G' H' → NewG G G' H → (∀ a o, H a = some o → a ≠ q.1 → a ≠ q.2 → H' a = some o) → SrcOk H' q S' → RsNew K G' H H' v r → Q v H'
def args (ds : List D) : List (Option Ent) := ds.map fun d => some (.val d)
def out : Fl → Option Rs
  | .nx => some (.val .none)
  | .rt r => some r
  | _ => none
def S0 : Src := ⟨[], 0, 0, 0⟩
def runD (np nl : Nat) (B : FS) : List D → Option Rs := fun ds => if ds.length = np then (B ⟨args ds ++ List.replicate (nl - np) none, S0⟩).bind fun p => out p.1 else none
def runS (np nl : Nat) (B : FS) : List D → Src → Option (Rs × Src) := fun ds S => if ds.length + 1 = np then (B ⟨some .src :: (args ds ++ List.replicate (nl - np) none), S⟩).bind fun p => (out p.1).bind fun r => some (r, p.2.S) else none

/-! ### a def's promise where no guard stands around -/
structure FnG (P : Program) (w : World) (K : PySem.W.Frag) (mg : Str → Option Value) (base : Heap) (k : Nat) (f : Addr) (fd : FuncData) (ps : List Str) (sp : Sp) : Prop where
  len : ∀ vs H Q E, sp vs H Q E → vs.length = ps.length
  run : ∀ (A : Around) (o : List Env) (s : Shared) (H : Hp) (a : Args) (us : List Value) (vs : List V) (Q : VK) (E : XK), A.guards = some [] → Room k A → Env0 P w K mg base A o s H →
    BindsTo s fd a (ps.zip us) → Vals vs us → sp vs H Q E → codeAny (model P w) A (.call (.ref f) a) (CR CX0 o P w H s Q E) s
section
variable {P : Program} {w : World} {K : PySem.W.Frag} {mg : Str → Option Value} {base : Heap}
theorem FnG.mono {j k : Nat} {f : Addr} {fd : FuncData} {ps : List Str} {sp : Sp} (F : FnG P w K mg base j f fd ps sp) (h : j ≤ k) : FnG P w K mg base k f fd ps sp :=
  ⟨F.len, fun A o s H a us vs Q E g hr => F.run A o s H a us vs Q E g (hr.mono h)⟩
theorem fnG_of {x qual : Str} {st : Stmt} {f : Addr} {fd : FuncData} {N ps : List Str} {k : Nat} {sp : Sp} (F : Fun K x qual st f fd) (S : FnScope N ps (defScope st)) (len : ∀ vs H Q E, sp vs H Q E → vs.length = ps.length)
    (hb : ∀ (cdv : Value) (A : Around) (o : List Env) (s : Shared) (H : Hp) (vs : List V) (Q : VK) (E : XK), A.guards = some [] → Room k (A.deeper (envOfC qual (defScope st) s.heap.objs.size f cdv)) → sp vs H Q E →
      ∃ t, PSs (cxOf CX0 P w K mg base N qual (defScope st) f cdv A o s H E).nox (defBody st) t ∧ t { nx := fun _ H' => Q .non H', rt := Q } (L2.start N vs) H) : FnG P w K mg base (k + 1) f fd ps sp := by
  obtain ⟨oc, od, kV, doc, pm, an, cdv, ct, osl, rfl, lk, hcd⟩ := F.ex
  refine ⟨len, fun A o s H a us vs Q E g hr e0 hbd r hsp => ?_⟩
  have ln := len _ _ _ _ hsp
  have KX : K.In s.heap := e0.mod.kin.keeps (fun b u q => (e0.bs b u q).1)
  have lim := e0.mod.nolimit.keeps (fun b u q => (e0.bs b u q).1)
  have kinds : ∀ y ∈ ps.zip us, (defScope st).names.lookup y.1 = some .local ∨ ((defScope st).names.lookup y.1 = some .cell ∧ ((cellsFrom (s.heap.objs.size + 1) (defScope st).names []).lookup y.1).isSome = true) := by
    rintro ⟨n, v⟩ hy
    rcases S.par n (List.of_mem_zip hy).1 with z | z
    · exact .inl z
    · exact .inr ⟨z, PySem.W.cellsFrom_some _ _ _ (.inl z)⟩
  refine codeAny_call_function hr.depth (KX _ _ lk) rfl S.co S.gen rfl (PySem.W.codeRec_of KX hcd) (hbd _ _ _ _ (wpAny_newFunctionEnv_cells S.kind kinds fun env he s1 x => ?_))
  subst he
  obtain ⟨t, ht, hq⟩ := hb cdv A o s H vs Q E g (hr.deeper _) hsp
  have I := inv_start (CX := CX0) (E := E) S hr.hd e0 ln r x
  refine ⟨lim.keeps x.toInCall.keep, codeAny_func (wpAny_mono (ht.nox.run [] s1 (L2.start N vs) H _ I hq) (fun fl s' hs => ?_) (fun _ _ hs => hs))⟩
  cases fl with
  | ret u => obtain ⟨v, σ', H', J, rv, q⟩ := hs; exact ⟨v, H', J.os, J.bare, J.base, J.hok, rv, q⟩
  | next => obtain ⟨σ', H', J, q⟩ := hs; exact ⟨V.non, H', J.os, J.bare, J.base, J.hok, rfl, q⟩
  | brk => obtain ⟨_, _, _, q⟩ := hs; exact q.elim
  | cont => obtain ⟨_, _, _, q⟩ := hs; exact q.elim
end
section
variable {X : Cx} {k : Nat} {f : Addr} {fd : FuncData} {ps : List Str} {sp : Sp} {x : Str} {p pos : Pos} {e : Expr} {es : List Expr} {t : TA}
theorem runG {pins : List (Addr × Obj)} {σ : L2.St} {H : Hp} {s : Shared} {Q : VK} {us : List Value} {vs : List V} (F : FnG X.prog X.w X.K X.mg X.base k f fd ps sp) (gd : X.A.guards = some []) (hr : Room k X.A) (hb : Binds X.K fd ps [])
    (I : Inv X pins σ H s) (r : Vals vs us) (h : sp vs H Q E0) : wpAny (model X.prog X.w) X.A (call (.ref f) us) (EP X pins σ Q) X.xe s := by
  have hl : (us ++ []).length = ps.length := by rw [List.append_nil, ← r.length]; exact F.len _ _ _ _ h
  have hb' := hb s us I.kIn hl
  rw [List.append_nil] at hb'
  refine wpAny_call (codeAny_mono (F.run X.A X.stack s H ⟨us, []⟩ us vs Q E0 gd hr I.env0 hb' r h) fun r s' hq => ?_)
  cases r with
  | error e => exact (show False from hq).elim
  | ok fl => cases fl with
    | ret u => exact I.after hq
    | next => exact (show False from hq).elim
    | brk => exact (show False from hq).elim
    | cont => exact (show False from hq).elim
theorem pe_callG (F : FnG X.prog X.w X.K X.mg X.base k f fd ps sp) (gd : X.A.guards = some []) (hr : Room k X.A) (hg : Gl X x) (hm : X.mg x = some (.ref f)) (hk : PySem.W.keepIn X.K (.ref f) = true) (hb : Binds X.K fd ps [])
    (ha : PA X (e :: es) t) (hdb : (x == ("__debug__" : Str)) = false := by decide) (he : starEach (e :: es) X.env = (false, eval e X.env) :: starEach es X.env := by rfl) (hpl : (backTo pos (starEach es X.env)).any (·.1) = false := by rfl) :
    PE X (.Call (.Name x p) (e :: es) [] pos) (fun σ H Q => t σ H fun vs H1 => sp vs H1 Q E0) :=
  ⟨fun pins s σ H Q I h => wpAny_Call_Name_kw (ld_glob I hg hm (PySem.W.callWith_K (h₀ := X.base) I.ok.mod.kin hk (thn (ha.run pos pins s σ H _ I h) fun us s1 ⟨vs, H1, I1, r, q⟩ => ⟨I1.kIn, runG F gd hr hb I1 r q⟩) he hpl) hdb)⟩
theorem pe_callG0 (F : FnG X.prog X.w X.K X.mg X.base k f fd ps sp) (gd : X.A.guards = some []) (hr : Room k X.A) (hg : Gl X x) (hm : X.mg x = some (.ref f)) (hk : PySem.W.keepIn X.K (.ref f) = true) (hb : Binds X.K fd ps [])
    (hdb : (x == ("__debug__" : Str)) = false := by decide) : PE X (.Call (.Name x p) [] [] pos) (fun σ H Q => sp [] H Q E0) :=
  ⟨fun pins s σ H Q I h => wpAny_Call_Name_kw (ld_glob I hg hm (PySem.W.callWith_K0 I.kIn hk (runG (us := []) F gd hr hb I .nil h)) hdb)⟩
end

section
variable {P : Program} {w : World} {K : PySem.W.Frag} {mg : Str → Option Value} {base : Heap}
theorem args_slot {K : PySem.W.Frag} {G : Hp} {vs : List V} {ds : List D} (ra : RpA K G vs ds) (n : Nat) (i : Nat) (x : Ent) (h : (args ds ++ List.replicate n none)[i]? = some (some x)) :
    ∃ v d, (vs.map some ++ List.replicate n none)[i]? = some (some v) ∧ x = .val d ∧ Rp K G v d := by
  by_cases z : i < ds.length
  · have hl : (args ds).length = ds.length := by simp [args]
    rw [List.getElem?_append_left (by rw [hl]; exact z)] at h
    have : (args ds)[i]? = some (some (.val ds[i])) := by simp [args, z]
    rw [this] at h; cases h
    obtain ⟨v, h1, h2⟩ := ra.get (i := i) (d := ds[i]) (by simp [z])
    exact ⟨v, ds[i], by rw [List.getElem?_append_left (by rw [List.length_map, ra.length]; exact z)]; simp [h1], rfl, h2⟩
  · rw [List.getElem?_append_right (by simp [args]; omega)] at h
    rw [List.getElem?_replicate] at h
    split at h <;> cases h
theorem back_new {C : Cn} {G' H' : Hp} {own : Nat → Option Addr} {H : Hp} {v : V} {r : Rs} (hc : C.H0 = H) (ok : RsOk K C G' own H' v r) : RsNew K G' H H' v r := by
  subst hc
  cases r with
  | val d => exact ok
  | fl ds => obtain ⟨p, vs, h1, h2, h3, h4, h5, _⟩ := ok; exact ⟨p, vs, h1, h2, h3, h4, h5⟩
  | fd b kvs => obtain ⟨p, h1, h2, h4, h5, _⟩ := ok; exact ⟨p, h1, h2, h4, h5⟩
/-- what a body's end gives -/
theorem flow_end {C : Cn} {G : Hp} {e' : EE} {fl : Fl} {r : Rs} (hr : out fl = some r) {Q : VK}
    (k : ∀ v G' own' σ' H', Le G G' → Rep K C G' own' e' σ' H' → RsOk K C G' own' H' v r → Q v H') : FlOk K C G e' { nx := fun _ H' => Q .non H', rt := Q } fl := by
  cases fl with
  | nx =>
    cases hr
    exact fun σ' G' own' H' l R => k .non G' own' σ' H' l R Rp.non
  | rt r' =>
    cases hr
    exact fun v σ' G' own' H' l R ok => k v G' own' σ' H' l R ok
  | bk => cases hr
  | ct => cases hr
theorem fn_D {x qual : Str} {st : Stmt} {f : Addr} {fd : FuncData} {N ps : List Str} {k : Nat} {B : FS} (F : Fun K x qual st f fd) (S : FnScope N ps (defScope st))
    (hb : ∀ (cdv : Value) (A : Around) (outer : List Env) (s : Shared) (H : Hp) (E : XK), A.guards = some [] → Room k (A.deeper (envOfC qual (defScope st) s.heap.objs.size f cdv)) → BD (cxOf CX0 P w K mg base N qual (defScope st) f cdv A outer s H E).nox (defBody st) B) :
    FnG P w K mg base (k + 1) f fd ps (spD K (runD ps.length N.length B)) := by
  have pre : ∀ vs H Q E, spD K (runD ps.length N.length B) vs H Q E → vs.length = ps.length := by
    rintro vs H Q E ⟨G, ds, r, _, ra, hr, _⟩
    rw [ra.length]
    unfold runD at hr
    split at hr
    · assumption
    · cases hr
  refine fnG_of F S pre fun cdv A outer s H vs Q E gd hr h => ?_
  have hl := pre vs H Q E h
  obtain ⟨G, ds, r, hs, ra, hf, kk⟩ := h
  refine ⟨_, hb cdv A outer s H E gd hr, ?_⟩
  unfold runD at hf
  rw [if_pos (by rw [← ra.length]; exact hl)] at hf
  obtain ⟨⟨fl, e'⟩, q1, q2⟩ := bind_some_of hf
  have R : Rep K ⟨H, G, none⟩ G (fun _ => none) ⟨args ds ++ List.replicate (N.length - ps.length) none, S0⟩ (L2.start N vs) H := by
    refine ⟨hs, Le.rfl', fun a ha => .inl ha, fun a o h _ => h, ?_, fun i x h => ?_, (fun i a h => by cases h), (fun i j a h => by cases h), (fun i a h => by cases h), (fun q h => by cases h)⟩
    · have := ra.length; unfold L2.start; simp [args]; omega
    · obtain ⟨v, d, h1, rfl, h2⟩ := args_slot ra _ i x h
      refine ⟨v, ?_, h2⟩
      unfold L2.start; rw [hl]; exact h1
  refine ⟨⟨H, G, none⟩, G, _, _, fl, e', R, q1, flow_end q2 fun v G' own' σ' H' l R' ok => ?_⟩
  exact kk v G' H' l R'.sub (fun a ha => R'.new a ha) (fun a o h => R'.frm a o h fun q hq => by cases hq) (back_new rfl ok)
theorem fn_S {x qual : Str} {st : Stmt} {f : Addr} {fd : FuncData} {N ps : List Str} {k : Nat} {B : FS} (F : Fun K x qual st f fd) (S : FnScope N ps (defScope st))
    (hb : ∀ (cdv : Value) (A : Around) (outer : List Env) (s : Shared) (H : Hp) (E : XK), A.guards = some [] → Room k (A.deeper (envOfC qual (defScope st) s.heap.objs.size f cdv)) → BD (cxOf CX0 P w K mg base N qual (defScope st) f cdv A outer s H E).nox (defBody st) B) :
    FnG P w K mg base (k + 1) f fd ps (spS K (runS ps.length N.length B)) := by
  have pre : ∀ vs H Q E, spS K (runS ps.length N.length B) vs H Q E → vs.length = ps.length := by
    rintro vs H Q E ⟨q, us, S, G, ds, r, S', rfl, _, _, _, _, ra, hr, _⟩
    rw [List.length_cons, ra.length]
    unfold runS at hr
    split at hr
    · assumption
    · cases hr
  refine fnG_of F S pre fun cdv A outer s H vs Q E gd hr h => ?_
  have hl := pre vs H Q E h
  obtain ⟨q, us, S, G, ds, r, S', rfl, hq, g1, g2, hs, ra, hf, kk⟩ := h
  refine ⟨_, hb cdv A outer s H E gd hr, ?_⟩
  have hl' : ds.length + 1 = ps.length := by rw [← ra.length, ← hl]; rfl
  unfold runS at hf
  rw [if_pos hl'] at hf
  obtain ⟨⟨fl, e'⟩, q1, q2⟩ := bind_some_of hf
  obtain ⟨r', q3, q4⟩ := bind_some_of q2
  cases q4
  have n1 : H q.1 ≠ none := by rw [hq.d]; exact (fun z => nomatch z)
  have n2 : H q.2 ≠ none := by rw [hq.c]; exact (fun z => nomatch z)
  have R : Rep K ⟨H, G, some q⟩ G (fun _ => none) ⟨some .src :: (args ds ++ List.replicate (N.length - ps.length) none), S⟩ (L2.start N (.ref q.1 :: us)) H := by
    refine ⟨hs, Le.rfl', fun a ha => .inl ha, fun a o h _ => h, ?_, fun i x h => ?_, (fun i a h => by cases h), (fun i j a h => by cases h), (fun i a h => by cases h), (fun q' h => by cases h; exact ⟨hq, g1, g2, n1, n2⟩)⟩
    · unfold L2.start; simp [args, ra.length]; omega
    · cases i with
      | zero => cases h; exact ⟨.ref q.1, by simp [L2.start], q, rfl, rfl⟩
      | succ i =>
        obtain ⟨v, d, h1, rfl, h2⟩ := args_slot ra _ i x (by simpa using h)
        refine ⟨v, ?_, h2⟩
        unfold L2.start; rw [hl]; simpa using h1
  refine ⟨⟨H, G, some q⟩, G, _, _, fl, e', R, q1, flow_end q3 fun v G' own' σ' H' l R' ok => ?_⟩
  exact kk v G' H' l R'.sub (fun a ha => R'.new a ha) (fun a o h z1 z2 => R'.frm a o h fun q' hq' => by cases hq'; exact ⟨z1, z2⟩) (R'.src q rfl).1 (back_new rfl ok)
end

/-! ### calls of defs -/
def eCall (φ : List D → Option Rs) (A : FA) : FE := fun e => (A e).bind fun p => (φ p.1).bind fun r => some (r, p.2)
def eCallS (i : Nat) (φ : List D → Src → Option (Rs × Src)) (A : FA) : FE := fun e => match e.r[i]? with
  | some (some .src) => (A e).bind fun p => (φ p.1 p.2.S).bind fun q => some (q.1, ⟨p.2.r, q.2⟩)
  | _ => none
section
variable {K : PySem.W.Frag} {C : Cn} {G G' H H' : Hp} {own : Nat → Option Addr} {e : EE} {σ : L2.St} {v : V} {r : Rs}
theorem Rep.after (R : Rep K C G own e σ H) (l : Le G G') (l2 : Le G' H') (n : NewG G G' H) (k : Le H H') (h : RsNew K G' H H' v r) : Rep K C G' own e σ H' ∧ RsOk K C G' own H' v r := by
  have own' : ∀ i a, own i = some a → H' a = H a := fun i a q => by
    cases z : H a with
    | none => exact absurd z (R.thr i a q)
    | some u => exact k a u z
  refine ⟨⟨l2, R.ext.tr l, fun a ha => ?_, fun a o q z => k a o (R.frm a o q z), R.len, fun i x q => ?_, fun i a q => ⟨(R.ofr i a q).1, ?_⟩, R.inj, fun i a q => ?_, fun q hq => ?_⟩, ?_⟩
  · rcases n a ha with z | z
    · exact R.new a z
    · exact .inr (R.h0none z)
  · obtain ⟨v, h1, h2⟩ := R.slot i x q
    exact ⟨v, h1, h2.keep l rfl fun a ha => own' i a ha⟩
  · cases z : G' a with
    | none => rfl
    | some u =>
      rcases n a (by rw [z]; exact (fun z => nomatch z)) with y | y
      · exact absurd (R.ofr i a q).2 y
      · exact absurd y (R.thr i a q)
  · rw [own' i a q]; exact R.thr i a q
  · obtain ⟨⟨h1, h2⟩, h3⟩ := R.src q hq
    exact ⟨⟨k _ _ h1, k _ _ h2⟩, h3⟩
  · cases r with
    | val d => exact h
    | fl ds => obtain ⟨p, vs, h1, h2, h3, h4, h5⟩ := h; exact ⟨p, vs, h1, h2, h3, h4, R.h0none h5, R.notOwn h5⟩
    | fd b kvs => obtain ⟨p, h1, h2, h4, h5⟩ := h; exact ⟨p, h1, h2, h4, R.h0none h5, R.notOwn h5⟩
theorem Rep.afterS {q : Addr × Addr} {S' : Src} (R : Rep K C G own e σ H) (hq : C.so = some q) (l : Le G G') (l2 : Le G' H') (n : NewG G G' H) (k : ∀ a o, H a = some o → a ≠ q.1 → a ≠ q.2 → H' a = some o) (s : SrcOk H' q S') (h : RsNew K G' H H' v r) :
    Rep K C G' own ⟨e.r, S'⟩ σ H' ∧ RsOk K C G' own H' v r := by
  have nq : ∀ i a, own i = some a → a ≠ q.1 ∧ a ≠ q.2 := fun i a z => ⟨fun y => (R.src q hq).2.2.2.1 (y ▸ (R.ofr i a z).1), fun y => (R.src q hq).2.2.2.2 (y ▸ (R.ofr i a z).1)⟩
  have own' : ∀ i a, own i = some a → H' a = H a := fun i a y => by
    cases z : H a with
    | none => exact absurd z (R.thr i a y)
    | some u => exact k a u z (nq i a y).1 (nq i a y).2
  refine ⟨⟨l2, R.ext.tr l, fun a ha => ?_, fun a o y z => k a o (R.frm a o y z) (z q hq).1 (z q hq).2, R.len, fun i x y => ?_, fun i a y => ⟨(R.ofr i a y).1, ?_⟩, R.inj, fun i a y => ?_, fun q' hq' => ?_⟩, ?_⟩
  · rcases n a ha with z | z
    · exact R.new a z
    · exact .inr (R.h0none z)
  · obtain ⟨v, h1, h2⟩ := R.slot i x y
    exact ⟨v, h1, h2.keep l rfl fun a ha => own' i a ha⟩
  · cases z : G' a with
    | none => rfl
    | some u =>
      rcases n a (by rw [z]; exact (fun z => nomatch z)) with x | x
      · exact absurd (R.ofr i a y).2 x
      · exact absurd x (R.thr i a y)
  · rw [own' i a y]; exact R.thr i a y
  · rw [hq] at hq'; cases hq'
    exact ⟨s, (R.src q hq).2⟩
  · cases r with
    | val d => exact h
    | fl ds => obtain ⟨p, vs, h1, h2, h3, h4, h5⟩ := h; exact ⟨p, vs, h1, h2, h3, h4, R.h0none h5, R.notOwn h5⟩
    | fd b kvs => obtain ⟨p, h1, h2, h4, h5⟩ := h; exact ⟨p, h1, h2, h4, R.h0none h5, R.notOwn h5⟩
end
section
variable {X : Cx} {k : Nat} {f : Addr} {fd : FuncData} {ps : List Str} {x : Str} {p pos : Pos} {e : Expr} {es : List Expr}
theorem ed_call {φ : List D → Option Rs} {A : FA} (F : FnG X.prog X.w X.K X.mg X.base k f fd ps (spD X.K φ)) (gd : X.A.guards = some []) (hr : Room k X.A) (hg : Gl X x) (hm : X.mg x = some (.ref f)) (hk : PySem.W.keepIn X.K (.ref f) = true) (hb : Binds X.K fd ps [])
    (ha : PA X (e :: es) (tA X.K A)) (hdb : (x == ("__debug__" : Str)) = false := by decide) (he : starEach (e :: es) X.env = (false, eval e X.env) :: starEach es X.env := by rfl) (hpl : (backTo pos (starEach es X.env)).any (·.1) = false := by rfl) :
    ED X (.Call (.Name x p) (e :: es) [] pos) (eCall φ A) := by
  refine peImp (pe_callG F gd hr hg hm hk hb ha hdb he hpl) fun σ H Q w => ?_
  obtain ⟨C, G, own, ev, r, e', R, hf, k⟩ := w
  obtain ⟨⟨ds, e1⟩, h1, h2⟩ := bind_some_of hf
  obtain ⟨r', h3, h4⟩ := bind_some_of h2
  cases h4
  refine ⟨C, G, own, ev, ds, e1, R, h1, fun vs G1 own1 H1 l1 R1 ra => ?_⟩
  refine ⟨G1, ds, r, R1.sub, ra, h3, fun v G' H' l l2 n kk rn => ?_⟩
  obtain ⟨R', ok⟩ := R1.after l l2 n kk rn
  exact k v G' own1 H' (l1.tr l) R' ok
theorem ed_call0 {φ : List D → Option Rs} (F : FnG X.prog X.w X.K X.mg X.base k f fd ps (spD X.K φ)) (gd : X.A.guards = some []) (hr : Room k X.A) (hg : Gl X x) (hm : X.mg x = some (.ref f)) (hk : PySem.W.keepIn X.K (.ref f) = true) (hb : Binds X.K fd ps [])
    (hdb : (x == ("__debug__" : Str)) = false := by decide) : ED X (.Call (.Name x p) [] [] pos) (eCall φ aNil) := by
  refine peImp (pe_callG0 F gd hr hg hm hk hb hdb) fun σ H Q w => ?_
  obtain ⟨C, G, own, ev, r, e', R, hf, k⟩ := w
  obtain ⟨⟨ds, e1⟩, h1, h2⟩ := bind_some_of hf
  obtain ⟨r', h3, h4⟩ := bind_some_of h2
  cases h1; cases h4
  refine ⟨G, [], r, R.sub, .nil, h3, fun v G' H' l l2 n kk rn => ?_⟩
  obtain ⟨R', ok⟩ := R.after l l2 n kk rn
  exact k v G' own H' l R' ok
theorem ed_callS {i : Nat} {φ : List D → Src → Option (Rs × Src)} {A : FA} (F : FnG X.prog X.w X.K X.mg X.base k f fd ps (spS X.K φ)) (gd : X.A.guards = some []) (hr : Room k X.A) (hg : Gl X x) (hm : X.mg x = some (.ref f)) (hk : PySem.W.keepIn X.K (.ref f) = true) (hb : Binds X.K fd ps [])
    (h0 : PE X e (tVar i)) (ha : PA X es (tA X.K A)) (hdb : (x == ("__debug__" : Str)) = false := by decide) (he : starEach (e :: es) X.env = (false, eval e X.env) :: starEach es X.env := by rfl) (hpl : (backTo pos (starEach es X.env)).any (·.1) = false := by rfl) :
    ED X (.Call (.Name x p) (e :: es) [] pos) (eCallS i φ A) := by
  refine peImp (pe_callG F gd hr hg hm hk hb (pa_cons h0 ha he) hdb he hpl) fun σ H Q w => ?_
  obtain ⟨C, G, own, ev, r, e', R, hf, k⟩ := w
  unfold eCallS at hf
  split at hf
  · rename_i hi
    obtain ⟨⟨ds, e1⟩, h1, h2⟩ := bind_some_of hf
    obtain ⟨⟨r', S'⟩, h3, h4⟩ := bind_some_of h2
    cases h4
    obtain ⟨v0, y1, q, hq, rfl⟩ := R.slot i _ hi
    refine ⟨_, y1, C, G, own, ev, ds, e1, R, h1, fun vs G1 own1 H1 l1 R1 ra => ?_⟩
    obtain ⟨s1, s2, s3, s4, s5⟩ := R1.src q hq
    have gn : ∀ a, C.G0 a = none → C.H0 a ≠ none → G1 a = none := fun a z1 z2 => by
      cases z : G1 a with
      | none => rfl
      | some u =>
        rcases R1.new a (by rw [z]; exact (fun z => nomatch z)) with y | y
        · exact absurd z1 y
        · exact absurd y z2
    refine ⟨q, vs, e1.S, G1, ds, r', S', rfl, s1, gn _ s2 s4, gn _ s3 s5, R1.sub, ra, h3, fun v G' H' l l2 n kk so rn => ?_⟩
    obtain ⟨R', ok⟩ := R1.afterS hq l l2 n kk so rn
    exact k v G' own1 H' (l1.tr l) R' ok
  · cases hf
end
end EL
/-! EL5: operators, indices, slices, plain built-ins, methods of lists. -/
namespace EL
open PySem PySem.Spec PyProof.Rows L2
variable [KC]

section
variable {K : PySem.W.Frag} {G H : Hp} {v : V} {d : D}
theorem Rr.int {i : Int} (h : Rr K G H v (.int i)) : v = .int i := by cases h with | frz h => cases h; rfl
theorem Rr.bl {b : Bool} (h : Rr K G H v (.bool b)) : v = .bl b := by cases h with | frz h => cases h; rfl
theorem Rr.str {x : Str} (h : Rr K G H v (.str x)) : v = .str x := by cases h with | frz h => cases h; rfl
theorem Rr.non (h : Rr K G H v .none) : v = .non := by cases h with | frz h => cases h; rfl
theorem Rr.list {ds : List D} (l : Le G H) (h : Rr K G H v (.list ds)) : ∃ p vs, v = .ref p ∧ H p = some (.lst vs) ∧ RpA K G vs ds := by
  cases h with
  | frz h => cases h with | lst h r => exact ⟨_, _, rfl, l _ _ h, r⟩
  | lst h r => exact ⟨_, _, rfl, h, r⟩
theorem Rr.tup {ds : List D} (l : Le G H) (h : Rr K G H v (.tuple ds)) : ∃ p vs, v = .ref p ∧ SqT K H p vs ∧ RpA K G vs ds := by
  cases h with
  | frz h =>
    obtain ⟨a, rfl⟩ := h.isRef
    obtain ⟨vs, hs, ra⟩ := h.sqT
    exact ⟨_, _, rfl, sqT_mono l hs, ra⟩
theorem Rr.tupRp {ds : List D} (h : Rr K G H v (.tuple ds)) : Rp K G v (.tuple ds) := by cases h with | frz h => exact h
theorem RrA.one {vs : List V} (h : RrA K G H vs [d]) : ∃ x, vs = [x] ∧ Rr K G H x d := by
  cases h with | cons h1 h2 => cases h2; exact ⟨_, rfl, h1⟩
theorem RrA.two {vs : List V} {d' : D} (h : RrA K G H vs [d, d']) : ∃ x y, vs = [x, y] ∧ Rr K G H x d ∧ Rr K G H y d' := by
  cases h with | cons h1 h2 => obtain ⟨y, rfl, h3⟩ := h2.one; exact ⟨_, _, rfl, h1, h3⟩
theorem RpA.nilIff {vs : List V} {ds : List D} (h : RpA K G vs ds) : vs = [] ↔ ds = [] := by
  cases h with
  | nil => simp
  | cons _ _ => simp
theorem RpA.rep {vs : List V} {ds : List D} (h : RpA K G vs ds) : ∀ k : Nat, RpA K G (List.replicate k vs).flatten (List.replicate k ds).flatten
  | 0 => .nil
  | k + 1 => by
    rw [List.replicate_succ, List.replicate_succ, List.flatten_cons, List.flatten_cons]
    exact h.append (h.rep k)
theorem RpA.toInts {vs : List V} : ∀ {ns : List Int}, RpA K G vs (ns.map PyData.int) → vs = ns.map V.int
  | [], h => by cases h; rfl
  | n :: ns, h => by
    cases h with
    | cons h1 h2 => cases h1; rw [List.map_cons, h2.toInts]
theorem RpA.toBls {vs : List V} : ∀ {ns : List Bool}, RpA K G vs (ns.map PyData.bool) → vs = ns.map V.bl
  | [], h => by cases h; rfl
  | n :: ns, h => by
    cases h with
    | cons h1 h2 => cases h1; rw [List.map_cons, h2.toBls]
end

/-! ### arithmetic -/
def gAdd : D → D → Option Rs
  | .int i, .int j => some (.val (.int (i + j)))
  | .str a, .str b => if small (a.length + b.length) = true then some (.val (.str (a ++ b))) else none
  | .tuple a, .tuple b => if small (a.length + b.length) = true then some (.val (.tuple (a ++ b))) else none
  | .list a, .list b => if small (a.length + b.length) = true then some (.fl (a ++ b)) else none
  | _, _ => none
def gSub : D → D → Option Rs
  | .int i, .int j => some (.val (.int (i - j)))
  | _, _ => none
def mulOk (i j : Int) : Bool := hide ((-(2 ^ 64) < i ∧ i < 2 ^ 64) ∨ (-(2 ^ 64) < j ∧ j < 2 ^ 64))
def gMul : D → D → Option Rs
  | .int i, .int j => if mulOk i j = true then some (.val (.int (i * j))) else none
  | .list a, .int k => if (inW k && small (a.length * k.toNat)) = true then some (.fl (List.replicate k.toNat a).flatten) else none
  | _, _ => none
def divOk (j : Int) : Bool := hide (j ≠ 0 ∧ j.natAbs < 1073741824)
def gDiv : D → D → Option Rs
  | .int i, .int j => if divOk j = true then some (.val (.int (i.fdiv j))) else none
  | _, _ => none
def gMod : D → D → Option Rs
  | .int i, .int j => if decide (j ≠ 0) = true then some (.val (.int (i.fmod j))) else none
  | _, _ => none
def powOk (i j : Int) : Bool := hide (0 ≤ j ∧ j ≤ 1000000 ∧ i.natAbs < 2 ^ 64)
def gPow : D → D → Option Rs
  | .int i, .int j => if powOk i j = true then some (.val (.int (i ^ j.toNat))) else none
  | _, _ => none
def gNeg : D → Option Rs
  | .int i => some (.val (.int (-i)))
  | _ => none

theorem okM {i j : Int} (h : mulOk i j = true) : CMul i j := by
  have z := unhide h
  exact z
theorem okD {i j : Int} (h : divOk j = true) : CDivN i j := by
  have z := unhide h
  exact z
theorem okP {i j : Int} (h : powOk i j = true) : CPow i j := by
  have z := unhide h
  exact z
section
variable {X : Cx}
theorem o_add : OpD X (binaryOp .Add) gAdd := by
  intro pins s σ H x y v u Q I rx ry h
  obtain ⟨G, dx, dy, r, sub, hx, hy, hg, k⟩ := h
  unfold gAdd at hg
  split at hg
  · cases hg; cases hx.int; cases hy.int
    exact op_add pins s σ H _ _ v u Q I rx ry ⟨_, _, rfl, rfl, k _ _ (.same (.int _))⟩
  · split at hg
    · rename_i hz; cases hg; cases hx.str; cases hy.str
      exact op_add_str pins s σ H _ _ v u Q I rx ry ⟨_, _, rfl, rfl, line_of hz, k _ _ (.same (.str _))⟩
    · cases hg
  · split at hg
    · rename_i a b hz; cases hg
      obtain ⟨p, vs, rfl, h1, h2⟩ := hx.tup sub
      obtain ⟨q, ws, rfl, h3, h4⟩ := hy.tup sub
      refine op_catA pins s σ H _ _ v u Q I rx ry ⟨p, q, vs, ws, rfl, rfl, h1, h3, by rw [h2.length, h4.length]; exact line_of hz, fun z => ?_, fun _ z => ?_, fun _ _ l hl => k _ _ (.tup hl (h2.append h4))⟩
      · have := h2.nilIff.mp z; subst this
        exact k _ _ (.same (by simpa using hy.tupRp))
      · have := h4.nilIff.mp z; subst this
        exact k _ _ (.same (by simpa using hx.tupRp))
    · cases hg
  · split at hg
    · rename_i a b hz; cases hg
      obtain ⟨p, vs, rfl, h1, h2⟩ := hx.list sub
      obtain ⟨q, ws, rfl, h3, h4⟩ := hy.list sub
      exact op_cat pins s σ H _ _ v u Q I rx ry ⟨p, q, vs, ws, rfl, rfl, h1, h3, by rw [h2.length, h4.length]; exact line_of hz, fun l hl => k _ _ (.lst hl (h2.append h4))⟩
    · cases hg
  · cases hg
theorem o_sub : OpD X (binaryOp .Sub) gSub := by
  intro pins s σ H x y v u Q I rx ry h
  obtain ⟨G, dx, dy, r, sub, hx, hy, hg, k⟩ := h
  unfold gSub at hg
  split at hg
  · cases hg; cases hx.int; cases hy.int
    exact op_sub pins s σ H _ _ v u Q I rx ry ⟨_, _, rfl, rfl, k _ _ (.same (.int _))⟩
  · cases hg
theorem o_mul : OpD X (binaryOp .Mult) gMul := by
  intro pins s σ H x y v u Q I rx ry h
  obtain ⟨G, dx, dy, r, sub, hx, hy, hg, k⟩ := h
  unfold gMul at hg
  split at hg
  · split at hg
    · rename_i hz; cases hg; cases hx.int; cases hy.int
      exact op_mul pins s σ H _ _ v u Q I rx ry ⟨_, _, rfl, rfl, okM hz, k _ _ (.same (.int _))⟩
    · cases hg
  · split at hg
    · rename_i hz; cases hg; cases hy.int
      rw [Bool.and_eq_true] at hz
      obtain ⟨p, vs, rfl, h1, h2⟩ := hx.list sub
      obtain ⟨b1, b2⟩ := unhide hz.1
      exact op_rep pins s σ H _ _ v u Q I rx ry ⟨p, _, vs, rfl, rfl, h1, by omega, by omega, by rw [h2.length]; exact line_of hz.2, fun l hl => k _ _ (.lst hl (h2.rep _))⟩
    · cases hg
  · cases hg
theorem o_div : OpD X (binaryOp .FloorDiv) gDiv := by
  intro pins s σ H x y v u Q I rx ry h
  obtain ⟨G, dx, dy, r, sub, hx, hy, hg, k⟩ := h
  unfold gDiv at hg
  split at hg
  · split at hg
    · rename_i hz; cases hg; cases hx.int; cases hy.int
      exact op_fdivN pins s σ H _ _ v u Q I rx ry ⟨_, _, rfl, rfl, okD hz, k _ _ (.same (.int _))⟩
    · cases hg
  · cases hg
theorem o_mod : OpD X (binaryOp .Mod) gMod := by
  intro pins s σ H x y v u Q I rx ry h
  obtain ⟨G, dx, dy, r, sub, hx, hy, hg, k⟩ := h
  unfold gMod at hg
  split at hg
  · split at hg
    · rename_i hz; cases hg; cases hx.int; cases hy.int
      exact op_modN pins s σ H _ _ v u Q I rx ry ⟨_, _, rfl, rfl, of_decide_eq_true hz, k _ _ (.same (.int _))⟩
    · cases hg
  · cases hg
theorem o_pow : OpD X (binaryOp .Pow) gPow := by
  intro pins s σ H x y v u Q I rx ry h
  obtain ⟨G, dx, dy, r, sub, hx, hy, hg, k⟩ := h
  unfold gPow at hg
  split at hg
  · split at hg
    · rename_i hz; cases hg; cases hx.int; cases hy.int
      exact op_pow pins s σ H _ _ v u Q I rx ry ⟨_, _, rfl, rfl, okP hz, k _ _ (.same (.int _))⟩
    · cases hg
  · cases hg
theorem u_neg : UnD X (unaryOp .USub) gNeg := by
  intro pins s σ H x v Q I rx h
  obtain ⟨G, dx, r, sub, hx, hg, k⟩ := h
  unfold gNeg at hg
  split at hg
  · cases hg; cases hx.int
    exact un_neg pins s σ H _ v Q I rx ⟨_, rfl, k _ _ (.same (.int _))⟩
  · cases hg
end

/-! ### comparisons -/
def gLt : D → D → Option Rs
  | .int i, .int j => some (.val (.bool (decide (i < j))))
  | _, _ => none
def gLe : D → D → Option Rs
  | .int i, .int j => some (.val (.bool (decide (i ≤ j))))
  | _, _ => none
def gGt : D → D → Option Rs
  | .int i, .int j => some (.val (.bool (decide (j < i))))
  | _, _ => none
def gGe : D → D → Option Rs
  | .int i, .int j => some (.val (.bool (decide (j ≤ i))))
  | _, _ => none
def gEq (x y : D) : Option Rs := if (SeqAt.shaped x && SeqAt.shaped y) = true then some (.val (.bool (PyData.eqv x y))) else none
def gNe (x y : D) : Option Rs := if (SeqAt.shaped x && SeqAt.shaped y) = true then some (.val (.bool (!PyData.eqv x y))) else none
def isNB : D → Bool
  | .none => true
  | _ => false
def gIsN : D → D → Option Rs
  | x, .none => some (.val (.bool (isNB x)))
  | .bool a, .bool b => some (.val (.bool (decide (a = b))))
  | _, _ => none
def gNotN : D → D → Option Rs
  | x, .none => some (.val (.bool (!isNB x)))
  | .bool a, .bool b => some (.val (.bool (!decide (a = b))))
  | _, _ => none
section
variable {K : PySem.W.Frag} {G H : Hp}
mutual
theorem Rp.dp (l : Le G H) : ∀ (d : D) (v : V), d.canLay0 = true → Rp K G v d → Dp K H v d
  | .none, _, _, h => by cases h; exact .non
  | .bool b, _, _, h => by cases h; exact .bl b
  | .int i, _, _, h => by cases h; exact .int i
  | .str x, _, _, h => by cases h; exact .str x
  | .list ds, _, c, h => by
    cases h with
    | lst h r => exact .lst (.of (l _ _ h)) (Rp.dpAll l ds _ (by simpa [PyData.canLay0] using c) r)
  | .tuple ds, _, c, h => by
    obtain ⟨a, rfl⟩ := h.isRef
    obtain ⟨vs, hs, r⟩ := h.sqT
    exact .tup (sqT_mono l hs) (Rp.dpAll l ds _ (by simpa [PyData.canLay0] using c) r)
  | .dict _, _, c, _ => by simp [PyData.canLay0] at c
theorem Rp.dpAll (l : Le G H) : ∀ (ds : List D) (vs : List V), PyData.canLayAll0 ds = true → RpA K G vs ds → DpAll K H vs ds
  | [], _, _, h => by cases h; exact .nil
  | d :: ds, _, c, h => by
    have c' : d.canLay0 = true ∧ PyData.canLayAll0 ds = true := by simpa [PyData.canLayAll0] using c
    cases h with
    | cons h1 h2 => exact .cons (Rp.dp l d _ c'.1 h1) (Rp.dpAll l ds _ c'.2 h2)
end
theorem Rr.dp (l : Le G H) {d : D} {v : V} (s : SeqAt.shaped d = true) (h : Rr K G H v d) : Dp K H v d := by
  have c := SeqAt.canLay_of_shaped s
  cases h with
  | frz h => exact h.dp l _ _ c
  | lst h r => exact .lst (.of h) (Rp.dpAll l _ _ (by simpa [PyData.canLay0] using c) r)
  | dic h => simp [PyData.canLay0] at c
end
section
variable {X : Cx}
theorem o_eq (hu : X.A.units + 64 < cLine) : OpD X (compareOp .Eq) gEq := by
  intro pins s σ H x y v u Q I rx ry h
  obtain ⟨G, dx, dy, r, sub, hx, hy, hg, k⟩ := h
  unfold gEq at hg
  split at hg
  · rename_i hz; cases hg
    rw [Bool.and_eq_true] at hz
    exact op_eqD hu pins s σ H _ _ v u Q I rx ry ⟨dx, dy, hx.dp sub hz.1, hy.dp sub hz.2, hz.1, hz.2, k _ _ (.same (.bl _))⟩
  · cases hg
theorem o_ne (hu : X.A.units + 64 < cLine) : OpD X (compareOp .NotEq) gNe := by
  intro pins s σ H x y v u Q I rx ry h
  obtain ⟨G, dx, dy, r, sub, hx, hy, hg, k⟩ := h
  unfold gNe at hg
  split at hg
  · rename_i hz; cases hg
    rw [Bool.and_eq_true] at hz
    exact op_neD hu pins s σ H _ _ v u Q I rx ry ⟨dx, dy, hx.dp sub hz.1, hy.dp sub hz.2, hz.1, hz.2, k _ _ (.same (.bl _))⟩
  · cases hg
theorem o_lt : OpD X (compareOp .Lt) gLt := by
  intro pins s σ H x y v u Q I rx ry h
  obtain ⟨G, dx, dy, r, sub, hx, hy, hg, k⟩ := h
  unfold gLt at hg
  split at hg
  · cases hg; cases hx.int; cases hy.int
    exact op_lt pins s σ H _ _ v u Q I rx ry ⟨_, _, rfl, rfl, k _ _ (.same (.bl _))⟩
  · cases hg
theorem o_le : OpD X (compareOp .LtE) gLe := by
  intro pins s σ H x y v u Q I rx ry h
  obtain ⟨G, dx, dy, r, sub, hx, hy, hg, k⟩ := h
  unfold gLe at hg
  split at hg
  · cases hg; cases hx.int; cases hy.int
    exact op_le pins s σ H _ _ v u Q I rx ry ⟨_, _, rfl, rfl, k _ _ (.same (.bl _))⟩
  · cases hg
theorem o_gt : OpD X (compareOp .Gt) gGt := by
  intro pins s σ H x y v u Q I rx ry h
  obtain ⟨G, dx, dy, r, sub, hx, hy, hg, k⟩ := h
  unfold gGt at hg
  split at hg
  · cases hg; cases hx.int; cases hy.int
    exact op_gt pins s σ H _ _ v u Q I rx ry ⟨_, _, rfl, rfl, k _ _ (.same (.bl _))⟩
  · cases hg
theorem o_ge : OpD X (compareOp .GtE) gGe := by
  intro pins s σ H x y v u Q I rx ry h
  obtain ⟨G, dx, dy, r, sub, hx, hy, hg, k⟩ := h
  unfold gGe at hg
  split at hg
  · cases hg; cases hx.int; cases hy.int
    exact op_ge pins s σ H _ _ v u Q I rx ry ⟨_, _, rfl, rfl, k _ _ (.same (.bl _))⟩
  · cases hg
theorem Rr.isNon {K : PySem.W.Frag} {G H : Hp} {v : V} {d : D} (h : Rr K G H v d) : decide (v = .non) = isNB d := by
  cases h with
  | frz h => cases h <;> simp [isNB]
  | lst h r => simp [isNB]
  | dic h => simp [isNB]
theorem o_is : OpD X (compareOp .Is) gIsN := by
  intro pins s σ H x y v u Q I rx ry h
  obtain ⟨G, dx, dy, r, sub, hx, hy, hg, k⟩ := h
  unfold gIsN at hg
  split at hg
  · cases hg; cases hy.non
    exact op_isN pins s σ H _ _ v u Q I rx ry ⟨rfl, by rw [hx.isNon]; exact k _ _ (.same (.bl _))⟩
  · cases hg; cases hx.bl; cases hy.bl
    exact op_is_bl pins s σ H _ _ v u Q I rx ry ⟨_, _, rfl, rfl, k _ _ (.same (.bl _))⟩
  · cases hg
theorem o_isnot : OpD X (compareOp .IsNot) gNotN := by
  intro pins s σ H x y v u Q I rx ry h
  obtain ⟨G, dx, dy, r, sub, hx, hy, hg, k⟩ := h
  unfold gNotN at hg
  split at hg
  · cases hg; cases hy.non
    refine op_notN pins s σ H _ _ v u Q I rx ry ⟨rfl, ?_⟩
    rw [hx.isNon]
    exact k _ _ (.same (.bl _))
  · cases hg; cases hx.bl; cases hy.bl
    exact op_isnot_bl pins s σ H _ _ v u Q I rx ry ⟨_, _, rfl, rfl, k _ _ (.same (.bl _))⟩
  · cases hg
end

/-! ### indices and slices -/
def gIx : D → D → Option Rs
  | .list ds, .int i => (atI ds i).bind fun d => some (.val d)
  | .tuple ds, .int i => (atI ds i).bind fun d => some (.val d)
  | .str z, .int i => if small z.length = true then (atI z.cps.toList i).bind fun c => some (.val (.str ⟨#[c]⟩)) else none
  | _, _ => none
theorem RpA.atI {K : PySem.W.Frag} {G : Hp} {vs : List V} {ds : List D} (h : RpA K G vs ds) {i : Int} {d : D} (e : L2.atI ds i = some d) : ∃ v, L2.atI vs i = some v ∧ Rp K G v d := by
  unfold L2.atI at e ⊢
  rw [h.length]
  obtain ⟨j, h1, h2⟩ := bind_some_of e
  rw [h1]
  exact h.get h2
section
variable {X : Cx}
theorem ed_sub {a b : Expr} {pos : Pos} {A B : FO} (ha : OE X a A) (hb : OE X b B) (hs : PlainIx b) : ED X (.Subscript a b pos) (eBin gIx A B) := by
  refine ed_ix (r := rIx X.K) (fun ta tb h1 h2 => pe_ix ix_seq h1 h2 hs) (fun x y H Q h => ?_) ha hb
  obtain ⟨G, dx, dy, r, sub, hx, hy, hg, k⟩ := h
  unfold gIx at hg
  split at hg
  · obtain ⟨d, q1, q2⟩ := bind_some_of hg
    cases q2; cases hy.int
    obtain ⟨p, vs, rfl, h1, h2⟩ := hx.list sub
    obtain ⟨w, q3, q4⟩ := h2.atI q1
    exact .inl ⟨p, vs, _, w, rfl, rfl, .of h1, q3, k _ _ (.same q4)⟩
  · obtain ⟨d, q1, q2⟩ := bind_some_of hg
    cases q2; cases hy.int
    obtain ⟨p, vs, rfl, h1, h2⟩ := hx.tup sub
    obtain ⟨w, q3, q4⟩ := h2.atI q1
    exact .inr (.inl ⟨p, vs, _, w, rfl, rfl, h1, q3, k _ _ (.same q4)⟩)
  · split at hg
    · rename_i hz
      obtain ⟨c, q1, q2⟩ := bind_some_of hg
      cases q2; cases hy.int; cases hx.str
      exact .inr (.inr ⟨_, _, c, rfl, rfl, line_of hz, q1, k _ _ (.same (.str _))⟩)
    · cases hg
  · cases hg
end
abbrev FP := EE → Option (Option Int × EE)
def tP (K : PySem.W.Frag) (F : FP) : TO := fun σ H Q => ∃ C G own e l e', Rep K C G own e σ H ∧ F e = some (l, e') ∧ ∀ G' own' H', Le G G' → Rep K C G' own' e' σ H' → Q l H'
def pNo : FP := fun e => some (none, e)
def pIn (F : FE) : FP := fun e => (F e).bind fun p => match p.1 with
  | .val (.int i) => some (some i, p.2)
  | _ => none
def cutD (ds : List D) (lo hi : Option Int) : List D := (ds.drop (HT.sIx ds.length 0 lo)).take (HT.sIx ds.length ds.length hi - HT.sIx ds.length 0 lo)
def gSl : D → Option Int → Option Int → Option Rs
  | .list ds, lo, hi => some (.fl (cutD ds lo hi))
  | .tuple ds, lo, hi => some (.val (.tuple (cutD ds lo hi)))
  | _, _, _ => none
def eSl (A : FO) (L U : FP) : FE := fun e => (A e).bind fun p => (L p.2).bind fun l => (U l.2).bind fun u => (p.1 u.2).bind fun d => (gSl d l.1 u.1).bind fun r => some (r, u.2)
theorem RpA.cut {K : PySem.W.Frag} {G : Hp} {vs : List V} {ds : List D} (h : RpA K G vs ds) (lo hi : Option Int) : RpA K G (cutV vs lo hi) (cutD ds lo hi) := by
  unfold cutV cutD
  rw [h.length]
  exact (h.drop _).take _
section
variable {X : Cx}
theorem pp_no : PO X none (tP X.K pNo) := by
  refine ⟨fun pins s σ H Q I w => ?_⟩
  obtain ⟨C, G, own, ev, l, e', R, hf, k⟩ := w
  cases hf
  exact po_none.run pins s σ H Q I (k G own H Le.rfl' R)
theorem pp_in {e : Expr} {F : FE} (h : ED X e F) : PO X (some e) (tP X.K (pIn F)) := by
  refine ⟨fun pins s σ H Q I w => ?_⟩
  obtain ⟨C, G, own, ev, l, e', R, hf, k⟩ := w
  obtain ⟨⟨r, e1⟩, h1, h2⟩ := bind_some_of hf
  dsimp only at h2
  split at h2
  · cases h2
    refine (po_some h).run pins s σ H Q I ⟨C, G, own, ev, _, _, R, h1, fun v G1 own1 H1 l1 R1 ok => ?_⟩
    rename_i i
    have ok : Rp X.K G1 v (.int i) := ok
    cases ok
    exact ⟨i, rfl, k G1 own1 H1 l1 R1⟩
  · cases h2
theorem sl_any {X : Cx} : SlR X (fun x lo hi H Q => ∃ G d r, Le G H ∧ Rr X.K G H x d ∧ gSl d lo hi = some r ∧ ∀ v H', Grow X.K G H v r H' → Q v H') := by
  intro pins s σ H x v vl vu lo hi sl Q I rx hs pl pu h
  obtain ⟨G, d, r, sub, hx, hg, k⟩ := h
  unfold gSl at hg
  split at hg
  · cases hg
    obtain ⟨p, vs, rfl, h1, h2⟩ := hx.list sub
    exact sl_list pins s σ H _ v vl vu lo hi sl Q I rx hs pl pu ⟨p, vs, rfl, .of h1, fun l hl => k _ _ (.lst hl (h2.cut lo hi))⟩
  · cases hg
    obtain ⟨p, vs, rfl, h1, h2⟩ := hx.tup sub
    refine sl_tupA pins s σ H _ v vl vu lo hi sl Q I rx hs pl pu ⟨p, vs, rfl, h1, fun w => ?_, fun _ l hl => k _ _ (.tup hl (h2.cut lo hi))⟩
    refine k _ _ (.same ?_)
    rename_i ds
    have e : cutD ds lo hi = ds := by
      unfold cutD
      rw [← h2.length, w.1, w.2, List.drop_zero, Nat.sub_zero, h2.length, List.take_length]
    rw [e]
    exact hx.tupRp
  · cases hg
theorem ed_slice {e : Expr} {lo hi : Option Expr} {p2 pos : Pos} {A : FO} {L U : FP} (he : OE X e A) (hl : PO X lo (tP X.K L)) (hu : PO X hi (tP X.K U)) : ED X (.Subscript e (.Slice lo hi none p2) pos) (eSl A L U) := by
  refine peImp (pe_slice sl_any he hl hu) fun σ H Q w => ?_
  obtain ⟨C, G, own, ev, r, e', R, hf, k⟩ := w
  obtain ⟨⟨t1, e1⟩, h1, h2⟩ := bind_some_of hf
  obtain ⟨⟨l, e2⟩, h3, h4⟩ := bind_some_of h2
  obtain ⟨⟨u, e3⟩, h5, h6⟩ := bind_some_of h4
  obtain ⟨d, h7, h8⟩ := bind_some_of h6
  obtain ⟨r', h9, hx⟩ := bind_some_of h8
  cases hx
  refine ⟨C, G, own, ev, t1, e1, R, h1, fun v G1 own1 H1 l1 R1 g1 => ⟨C, G1, own1, e1, l, e2, R1, h3, fun G2 own2 H2 l2 R2 => ⟨C, G2, own2, e2, u, e3, R2, h5, fun G3 own3 H3 l3 R3 => ?_⟩⟩⟩
  refine ⟨G3, d, r, R3.sub, g1 _ _ _ _ _ (l2.tr l3) R3 h7, h9, fun z H4 gr => ?_⟩
  obtain ⟨G4, l4, R4, ok⟩ := R3.grow gr
  exact k z G4 own3 H4 (l1.tr (l2.tr (l3.tr l4))) R4 ok
end

/-! ### built-ins -/
def gLen : List D → Option Rs
  | [.list ds] => some (.val (.int ds.length))
  | [.tuple ds] => some (.val (.int ds.length))
  | [.str z] => if small z.length = true then some (.val (.int z.length)) else none
  | _ => none
def gAbs : List D → Option Rs
  | [.int i] => some (.val (.int (if i < 0 then -i else i)))
  | _ => none
def gInt : List D → Option Rs
  | [.int i] => some (.val (.int i))
  | [.bool b] => some (.val (.int (if b then 1 else 0)))
  | _ => none
def gTuple : List D → Option Rs
  | [.list ds] => some (.val (.tuple ds))
  | [.tuple ds] => some (.val (.tuple ds))
  | _ => none
def gList : List D → Option Rs
  | [.list ds] => some (.fl ds)
  | [.tuple ds] => some (.fl ds)
  | _ => none
def gMax : List D → Option Rs
  | [.int i, .int j] => some (.val (.int (if j > i then j else i)))
  | _ => none
def gMin : List D → Option Rs
  | [.int i, .int j] => some (.val (.int (if j < i then j else i)))
  | _ => none
def blsD : List D → Option (List Bool)
  | [] => some []
  | .bool b :: ds => (blsD ds).bind fun bs => some (b :: bs)
  | _ => none
def intsD : List D → Option (List Int)
  | [] => some []
  | .int b :: ds => (intsD ds).bind fun bs => some (b :: bs)
  | _ => none
theorem blsD_of : ∀ {ds : List D} {bs : List Bool}, blsD ds = some bs → ds = bs.map PyData.bool
  | [], bs, h => by cases h; rfl
  | d :: ds, bs, h => by
    cases d <;> try (simp [blsD] at h; done)
    obtain ⟨cs, h1, h2⟩ := bind_some_of (by simpa only [blsD] using h)
    cases h2
    rw [blsD_of h1]; rfl
theorem intsD_of : ∀ {ds : List D} {bs : List Int}, intsD ds = some bs → ds = bs.map PyData.int
  | [], bs, h => by cases h; rfl
  | d :: ds, bs, h => by
    cases d <;> try (simp [intsD] at h; done)
    obtain ⟨cs, h1, h2⟩ := bind_some_of (by simpa only [intsD] using h)
    cases h2
    rw [intsD_of h1]; rfl
def gAll : List D → Option Rs
  | [.list ds] => (blsD ds).bind fun bs => some (.val (.bool (bs.all id)))
  | _ => none
def gAny : List D → Option Rs
  | [.list ds] => (blsD ds).bind fun bs => some (.val (.bool (bs.any id)))
  | _ => none
def gSumL : List D → Option Rs
  | [.list ds] => (intsD ds).bind fun bs => some (.val (.int bs.sum))
  | _ => none
section
variable {X : Cx}
theorem c_len : CallD X (.builtin "len") gLen := by
  intro pins s σ H xs us Q I rs h
  obtain ⟨G, ds, r, sub, hx, hg, k⟩ := h
  unfold gLen at hg
  split at hg
  · cases hg
    obtain ⟨x, rfl, h⟩ := hx.one
    obtain ⟨p, vs, rfl, h1, h2⟩ := h.list sub
    refine call_len_seq pins s σ H _ us Q I rs ⟨p, vs, rfl, .inl (.of h1), ?_⟩
    rw [h2.length]; exact k _ _ (.same (.int _))
  · cases hg
    obtain ⟨x, rfl, h⟩ := hx.one
    obtain ⟨p, vs, rfl, h1, h2⟩ := h.tup sub
    refine call_len_seq pins s σ H _ us Q I rs ⟨p, vs, rfl, .inr h1, ?_⟩
    rw [h2.length]; exact k _ _ (.same (.int _))
  · split at hg
    · rename_i hz; cases hg
      obtain ⟨x, rfl, h⟩ := hx.one
      cases h.str
      exact call_len_str pins s σ H _ us Q I rs ⟨_, rfl, line_of hz, k _ _ (.same (.int _))⟩
    · cases hg
  · cases hg
theorem c_abs : CallD X (.builtin "abs") gAbs := by
  intro pins s σ H xs us Q I rs h
  obtain ⟨G, ds, r, sub, hx, hg, k⟩ := h
  unfold gAbs at hg
  split at hg
  · cases hg
    obtain ⟨x, rfl, h⟩ := hx.one
    cases h.int
    exact call_abs pins s σ H _ us Q I rs ⟨_, rfl, k _ _ (.same (.int _))⟩
  · cases hg
theorem c_int : CallD X (.type "int") gInt := by
  intro pins s σ H xs us Q I rs h
  obtain ⟨G, ds, r, sub, hx, hg, k⟩ := h
  unfold gInt at hg
  split at hg
  · cases hg
    obtain ⟨x, rfl, h⟩ := hx.one
    cases h.int
    exact call_int1 pins s σ H _ us Q I rs (.inl ⟨_, rfl, k _ _ (.same (.int _))⟩)
  · cases hg
    obtain ⟨x, rfl, h⟩ := hx.one
    cases h.bl
    exact call_int1 pins s σ H _ us Q I rs (.inr ⟨_, rfl, k _ _ (.same (.int _))⟩)
  · cases hg
theorem c_tuple : CallD X (.type "tuple") gTuple := by
  intro pins s σ H xs us Q I rs h
  obtain ⟨G, ds, r, sub, hx, hg, k⟩ := h
  unfold gTuple at hg
  split at hg
  · cases hg
    obtain ⟨x, rfl, h⟩ := hx.one
    obtain ⟨p, vs, rfl, h1, h2⟩ := h.list sub
    exact call_tuple_of pins s σ H _ us Q I rs ⟨p, vs, rfl, .inl ⟨.of h1, fun l hl => k _ _ (.tup hl h2)⟩⟩
  · cases hg
    obtain ⟨x, rfl, h⟩ := hx.one
    obtain ⟨p, vs, rfl, h1, h2⟩ := h.tup sub
    exact call_tuple_of pins s σ H _ us Q I rs ⟨p, vs, rfl, .inr ⟨h1, k _ _ (.same h.tupRp)⟩⟩
  · cases hg
theorem c_list : CallD X (.type "list") gList := by
  intro pins s σ H xs us Q I rs h
  obtain ⟨G, ds, r, sub, hx, hg, k⟩ := h
  unfold gList at hg
  split at hg
  · cases hg
    obtain ⟨x, rfl, h⟩ := hx.one
    obtain ⟨p, vs, rfl, h1, h2⟩ := h.list sub
    exact call_list_of pins s σ H _ us Q I rs ⟨p, vs, rfl, .inl (.of h1), fun l hl => k _ _ (.lst hl h2)⟩
  · cases hg
    obtain ⟨x, rfl, h⟩ := hx.one
    obtain ⟨p, vs, rfl, h1, h2⟩ := h.tup sub
    exact call_list_of pins s σ H _ us Q I rs ⟨p, vs, rfl, .inr h1, fun l hl => k _ _ (.lst hl h2)⟩
  · cases hg
theorem c_max (hc : X.calm = true) : CallD X (.builtin "max") gMax := by
  intro pins s σ H xs us Q I rs h
  obtain ⟨G, ds, r, sub, hx, hg, k⟩ := h
  unfold gMax at hg
  split at hg
  · cases hg
    obtain ⟨x, y, rfl, h1, h2⟩ := hx.two
    cases h1.int; cases h2.int
    exact call_max2 hc pins s σ H _ us Q I rs ⟨_, _, rfl, k _ _ (.same (.int _))⟩
  · cases hg
theorem c_min (hc : X.calm = true) : CallD X (.builtin "min") gMin := by
  intro pins s σ H xs us Q I rs h
  obtain ⟨G, ds, r, sub, hx, hg, k⟩ := h
  unfold gMin at hg
  split at hg
  · cases hg
    obtain ⟨x, y, rfl, h1, h2⟩ := hx.two
    cases h1.int; cases h2.int
    exact call_min2 hc pins s σ H _ us Q I rs ⟨_, _, rfl, k _ _ (.same (.int _))⟩
  · cases hg
theorem c_all (hc : X.calm = true) : CallD X (.builtin "all") gAll := by
  intro pins s σ H xs us Q I rs h
  obtain ⟨G, ds, r, sub, hx, hg, k⟩ := h
  unfold gAll at hg
  split at hg
  · obtain ⟨bs, q1, q2⟩ := bind_some_of hg
    cases q2
    obtain ⟨x, rfl, h⟩ := hx.one
    obtain ⟨p, vs, rfl, h1, h2⟩ := h.list sub
    rw [blsD_of q1] at h2
    cases h2.toBls
    exact cr_all hc pins s σ H _ us Q I rs ⟨p, bs, rfl, .of h1, k _ _ (.same (.bl _))⟩
  · cases hg
theorem c_any (hc : X.calm = true) : CallD X (.builtin "any") gAny := by
  intro pins s σ H xs us Q I rs h
  obtain ⟨G, ds, r, sub, hx, hg, k⟩ := h
  unfold gAny at hg
  split at hg
  · obtain ⟨bs, q1, q2⟩ := bind_some_of hg
    cases q2
    obtain ⟨x, rfl, h⟩ := hx.one
    obtain ⟨p, vs, rfl, h1, h2⟩ := h.list sub
    rw [blsD_of q1] at h2
    cases h2.toBls
    exact cr_any hc pins s σ H _ us Q I rs ⟨p, bs, rfl, .of h1, k _ _ (.same (.bl _))⟩
  · cases hg
theorem c_sumL (hc : X.calm = true) : CallD X (.builtin "sum") gSumL := by
  intro pins s σ H xs us Q I rs h
  obtain ⟨G, ds, r, sub, hx, hg, k⟩ := h
  unfold gSumL at hg
  split at hg
  · obtain ⟨bs, q1, q2⟩ := bind_some_of hg
    cases q2
    obtain ⟨x, rfl, h⟩ := hx.one
    obtain ⟨p, vs, rfl, h1, h2⟩ := h.list sub
    rw [intsD_of q1] at h2
    cases h2.toInts
    exact cr_sum hc pins s σ H _ us Q I rs ⟨p, bs, rfl, .of h1, k _ _ (.same (.int _))⟩
  · cases hg
end

/-! ### isinstance -/
def tyD : D → String
  | .none => "NoneType"
  | .bool _ => "bool"
  | .int _ => "int"
  | .str _ => "str"
  | .list _ => "list"
  | .tuple _ => "tuple"
  | .dict _ => "dict"
/-- one of the seven, asked for one of these -/
def instB (T t : String) : Bool := T == t || (T == "int" && t == "bool")
def instT (T : String) : Bool := ["bool", "int", "str", "list", "tuple", "dict"].contains T
def eInst (A : FO) (T : String) : FE := fun e => (A e).bind fun p => (p.1 p.2).bind fun d => if instT T = true then some (.val (.bool (instB T (tyD d))), p.2) else none
section
variable {X : Cx} {K : PySem.W.Frag} {G H : Hp}
theorem Rr.ty {v : V} {d : D} (l : Le G H) (h : Rr K G H v d) : TyX K H v (.type (tyD d)) := by
  cases h with
  | frz h =>
    cases h with
    | non => exact .base .non
    | bl b => exact .base (.bl b)
    | int i => exact .base (.int i)
    | str x => exact .base (.str x)
    | lst h r => exact .base (.lst (l _ _ h))
    | tup h r => exact .base (.tup (l _ _ h))
    | kon h r c =>
      rcases h with (h | ⟨o, h⟩) | ⟨o, its, n, hk, hc, _⟩
      · cases h
      · cases h
      · exact .kTuple hk hc
    | dk h r => exact .base (.dK (l _ _ h))
    | dt h r => exact .base (.dT (l _ _ h))
  | lst h r => exact .base (.lst h)
  | dic h =>
    rcases h with ⟨_, _, _, h, _⟩ | ⟨_, _, _, h, _⟩
    · exact .base (.dK h)
    · exact .base (.dT h)
theorem kit_all : (["bool", "int", "str", "list", "tuple", "dict"].all fun T => ["NoneType", "bool", "int", "str", "list", "tuple", "dict"].all fun t => (instB T t == true || instB T t == false)) = true := by decide
end
end EL
/-! EL6: isinstance, repr. -/
namespace EL
open PySem PySem.Spec PyProof.Rows L2
variable [KC]

def kTab : List (String × String) := (["bool", "int", "str", "list", "tuple", "dict"].map fun T => ["NoneType", "bool", "int", "str", "list", "tuple", "dict"].map fun t => (T, t)).flatten
theorem kTab_ok : (kTab.all fun q => kitB q.2 q.1 == some (instB q.1 q.2)) = true := by decide +kernel
theorem tyD_in (d : D) : tyD d ∈ ["NoneType", "bool", "int", "str", "list", "tuple", "dict"] := by cases d <;> simp [tyD]
theorem kit_inst {K : PySem.W.Frag} {T : String} (h : instT T = true) (d : D) : PySem.W.kitOne K (.type (tyD d)) (.type T) = some (instB T (tyD d)) := by
  refine kit_ty ?_
  have m : (T, tyD d) ∈ kTab := by
    unfold kTab
    rw [List.mem_flatten]
    refine ⟨_, List.mem_map.mpr ⟨T, by simpa [instT] using h, rfl⟩, List.mem_map.mpr ⟨_, tyD_in d, rfl⟩⟩
  have := List.all_eq_true.mp kTab_ok _ m
  simpa using this
section
variable {X : Cx}
theorem ed_inst {x T : Str} {p pos q : Pos} {e : Expr} {A : FO} {t : String} (hg : Gl X x) (hm : X.mg x = none) (hv : bootBuiltins x = some (.builtin "isinstance")) (hgT : Gl X T) (hmT : X.mg T = none) (hvT : bootBuiltins T = some (.type t)) (ha : OE X e A)
    (hn : x ≠ "__name__" := by decide) (hdb : (x == ("__debug__" : Str)) = false := by decide) (hnT : T ≠ "__name__" := by decide) (hdT : (T == ("__debug__" : Str)) = false := by decide)
    (he : starEach (e :: [.Name T q]) X.env = (false, eval e X.env) :: starEach [.Name T q] X.env := by rfl) (hs : starEach (.Name T q :: []) X.env = (false, eval (.Name T q) X.env) :: starEach [] X.env := by rfl)
    (hpl : (backTo pos (starEach [.Name T q] X.env)).any (·.1) = false := by rfl) : ED X (.Call (.Name x p) [e, .Name T q] [] pos) (eInst A t) := by
  refine peImp (pe_callB call_isi hg hm hv (pa_cons ha (pa_cons (pe_bltn (v := .ty t) hgT hmT hvT rfl hnT hdT) pa_nil hs) he) hn hdb he hpl) fun σ H Q w => ?_
  obtain ⟨C, G, own, ev, r, e', R, hf, k⟩ := w
  obtain ⟨⟨t1, e1⟩, h1, h2⟩ := bind_some_of hf
  obtain ⟨d, h3, h4⟩ := bind_some_of h2
  split at h4
  · rename_i hT
    cases h4
    refine ⟨C, G, own, ev, t1, e1, R, h1, fun v G1 own1 H1 l1 R1 g1 => ?_⟩
    refine ⟨v, .ty t, _, _, _, rfl, .ty t, (g1 _ _ _ _ _ Le.rfl' R1 h3).ty R1.sub, kit_inst hT d, k _ G1 own1 H1 l1 R1 (Rp.bl _)⟩
  · cases h4
end

/-! ### repr -/
section
variable {X : Cx} {pins : List (Addr × Obj)} {σ : L2.St} {H : Hp} {s : Shared}
theorem key_reads {P : Program} {w : World} {h : Heap} {k : Key} {v : Value} (e : (mixKind P w).is k v = true) : Reads h v (kd k) [] := by
  rcases keyIs_shape (show keyIs k v = true from e) with ⟨i, t, rfl, rfl⟩ | ⟨x, t, rfl, rfl⟩
  · exact .int i t
  · exact .str x t
theorem keys_reads {P : Program} {w : World} {h : Heap} {es : List DictEntry} {vs : List (Key × Value)} (pr : PySem.Pairs (mixKind P w) es vs) : ReadsAll h (es.map (·.key)) (vs.map fun q => kd q.1) [] := by
  induction pr with
  | nil => exact .nil
  | cons h1 h2 _ ih => exact ReadsAll.cons (as := []) (bs := []) (key_reads h1) ih
theorem kv_keys {κ : Type} {kvs : List (κ × V)} {vs : List (κ × Value)} (r : KV kvs vs) : vs.map (·.1) = kvs.map (·.1) := by
  unfold KV at r
  induction r with
  | nil => rfl
  | cons h _ ih => simp only [List.map_cons, ih, h.1]
theorem kv_vals {κ : Type} {kvs : List (κ × V)} {vs : List (κ × Value)} (r : KV kvs vs) : Vals (kvs.map (·.2)) (vs.map (·.2)) := by
  unfold KV at r
  induction r with
  | nil => exact .nil
  | cons h _ ih => exact .cons h.2 ih
theorem pairs_vals {P : Program} {w : World} {es : List DictEntry} {vs : List (Key × Value)} (pr : PySem.Pairs (mixKind P w) es vs) : es.map (·.val) = vs.map (·.2) := by
  induction pr with
  | nil => rfl
  | cons h1 h2 _ ih => simp only [List.map_cons, ih, h2]
theorem zip_fst {α β : Type} : ∀ {l : List α} {m : List β}, l.length = m.length → (l.zip m).map (·.1) = l
  | [], [], _ => rfl
  | a :: l, b :: m, h => by simp [zip_fst (l := l) (m := m) (by simpa using h)]
theorem zip_snd {α β : Type} : ∀ {l : List α} {m : List β}, l.length = m.length → (l.zip m).map (·.2) = m
  | [], [], _ => rfl
  | a :: l, b :: m, h => by simp [zip_snd (l := l) (m := m) (by simpa using h)]
theorem kds_reads {h : Heap} : ∀ {ks : List Key} {us : List Value}, Vals (ks.map kV) us → ReadsAll h us (ks.map kd) []
  | [], _, .nil => .nil
  | .inl i :: ks, _, .cons r t => by obtain ⟨tk, rfl⟩ := r; exact ReadsAll.cons (as := []) (bs := []) (.int i tk) (kds_reads t)
  | .inr x :: ks, _, .cons r t => by obtain ⟨tk, rfl⟩ := r; exact ReadsAll.cons (as := []) (bs := []) (.str x tk) (kds_reads t)
theorem dt_keys_reads (I : L2.Inv X pins σ H s) {kvs : List (List Key × V)} : ∀ {xs : List (List Key × Addr × Value)},
    Paired (fun (p : List Key × V) (q : List Key × Addr × Value) => p.1 = q.1 ∧ H q.2.1 = some (.tup (p.1.map kV)) ∧ RelV p.2 q.2.2) kvs xs →
    ReadsAll s.heap (xs.map fun q => Value.ref q.2.1) (kvs.map fun q => PyData.tuple (q.1.map kd)) [] ∧ Vals (kvs.map (·.2)) (xs.map fun q => q.2.2) := by
  intro xs r
  induction r with
  | nil => exact ⟨.nil, .nil⟩
  | cons h _ ih =>
    obtain ⟨h1, h2, h3⟩ := h
    obtain ⟨its, rv, ⟨o, ho, hc, n, hd⟩, _⟩ := I.tuple (SqT.of h2)
    exact ⟨ReadsAll.cons (as := []) (bs := []) (Reads.tuple ho hc hd (kds_reads rv)) ih.1, .cons h3 ih.2⟩
theorem Rp.reads (I : L2.Inv X pins σ H s) {v : V} {d : D} (h : Rp X.K H v d) : ∀ u, RelV v u → ∃ as, Reads s.heap u d as ∧ ∀ a ∈ as, H a ≠ none := by
  refine Rp.rec (motive_1 := fun v d _ => ∀ u, RelV v u → ∃ as, Reads s.heap u d as ∧ ∀ a ∈ as, H a ≠ none) (motive_2 := fun vs ds _ => ∀ us, Vals vs us → ∃ as, ReadsAll s.heap us ds as ∧ ∀ a ∈ as, H a ≠ none) ?_ ?_ ?_ ?_ ?_ ?_ ?_ ?_ ?_ ?_ ?_ h
  · intro u r; cases r; exact ⟨_, Reads.none, fun a h => by cases h⟩
  · intro b u r; cases r; exact ⟨_, Reads.bool b, fun a h => by cases h⟩
  · intro i u r; obtain ⟨t, rfl⟩ := r; exact ⟨_, Reads.int i t, fun a h => by cases h⟩
  · intro x u r; obtain ⟨t, rfl⟩ := r; exact ⟨_, Reads.str x t, fun a h => by cases h⟩
  · intro a vs ds hs _ ih u r
    cases r
    obtain ⟨_, its, n, rv, e⟩ := (show ObjOk X.prog X.w H s.heap a (.lst vs) from I.hok a _ hs)
    obtain ⟨as, h1, h2⟩ := ih its rv
    refine ⟨_, Reads.list e rfl rfl h1, fun b hb => ?_⟩
    rcases List.mem_cons.mp hb with rfl | hb
    · rw [hs]; exact (fun z => nomatch z)
    · exact h2 b hb
  · intro a vs ds hs _ ih u r
    cases r
    obtain ⟨its, rv, ⟨o, ho, hc, n, hd⟩, _⟩ := I.tuple (SqT.of hs)
    obtain ⟨as, h1, h2⟩ := ih its rv
    exact ⟨_, Reads.tuple ho hc hd h1, h2⟩
  · intro a vs ds hs _ _ ih u r
    cases r
    obtain ⟨its, rv, ⟨o, ho, hc, n, hd⟩, _⟩ := I.tuple (sqT_top hs)
    obtain ⟨as, h1, h2⟩ := ih its rv
    exact ⟨_, Reads.tuple ho hc hd h1, h2⟩
  · intro a kvs ds hs ra ih u r
    cases r
    obtain ⟨_, hS, vs, rel, o, es, ep, e, ex, d, _, pr, _⟩ := (show ObjOk X.prog X.w H s.heap a (.dK kvs) from I.hok a _ hs)
    have ln := ra.length
    rw [List.length_map] at ln
    obtain ⟨as, h1, h2⟩ := ih _ (kv_vals rel)
    refine ⟨_, Reads.dict e ex.1 d (as := []) (bs := as) ?_ ?_, fun b hb => ?_⟩
    · rw [zip_fst (by simpa using ln)]
      have := keys_reads (h := s.heap) pr
      have kk : (vs.map fun q => kd q.1) = kvs.map fun q => kd q.1 := by
        have z := congrArg (List.map kd) (kv_keys rel)
        rw [List.map_map, List.map_map] at z; exact z
      rwa [kk] at this
    · rw [zip_snd (by simpa using ln), pairs_vals pr]; exact h1
    · rcases List.mem_cons.mp hb with rfl | hb
      · rw [hs]; exact (fun z => nomatch z)
      · exact h2 b (by simpa using hb)
  · intro a kvs ds hs ra ih u r
    cases r
    obtain ⟨_, hS, xs, rel, o, es, ep, e, ex, d, he, _⟩ := (show ObjOk X.prog X.w H s.heap a (.dT kvs) from I.hok a _ hs)
    have ln := ra.length
    rw [List.length_map] at ln
    obtain ⟨k1, k2⟩ := dt_keys_reads I rel
    obtain ⟨as, h1, h2⟩ := ih _ k2
    refine ⟨_, Reads.dict e ex.1 d (as := []) (bs := as) ?_ ?_, fun b hb => ?_⟩
    · rw [zip_fst (by simpa using ln), he, List.map_map]; exact k1
    · rw [zip_snd (by simpa using ln), he, List.map_map]; exact h1
    · rcases List.mem_cons.mp hb with rfl | hb
      · rw [hs]; exact (fun z => nomatch z)
      · exact h2 b (by simpa using hb)
  · intro us r; cases r; exact ⟨_, ReadsAll.nil, fun a h => by cases h⟩
  · intro v vs d ds _ _ i1 i2 us r
    cases r with
    | cons r1 r2 =>
      obtain ⟨as, h1, h2⟩ := i1 _ r1
      obtain ⟨bs, h3, h4⟩ := i2 _ r2
      exact ⟨_, ReadsAll.cons h1 h3, fun a ha => (List.mem_append.mp ha).elim (h2 a) (h4 a)⟩
end
section
variable {K : PySem.W.Frag} {G H : Hp}
/-- what reads as a tree is a frozen tree over the whole heap -/
theorem Rr.whole {v : V} {d : D} (l : Le G H) (h : Rr K G H v d) : Rp K H v d := by
  cases h with
  | frz h => exact h.mono l
  | lst h r => exact .lst h (r.mono l)
  | dic h =>
    rcases h with ⟨_, l', ds, h1, h2, rfl⟩ | ⟨_, l', ds, h1, h2, rfl⟩
    · exact .dk h1 (h2.mono l)
    · exact .dt h1 (h2.mono l)
end
def rpOk (d : D) : Bool := d.showable && hide (d.depth ≤ 180) && small d.shown.length
def gRepr : List D → Option Rs
  | [d] => if rpOk d = true then some (.val (.str d.shown)) else none
  | _ => none
section
variable {X : Cx}
theorem c_repr (gd : X.A.guards = some []) (hr : Room 1 X.A) (sys : ∃ o, X.base.get? sysModules = some o) : CallD X (.builtin "repr") gRepr := by
  intro pins s σ H xs us Q I rs h
  obtain ⟨G, ds, r, sub, hx, hg, k⟩ := h
  unfold gRepr at hg
  split at hg
  · rename_i d
    split at hg
    · rename_i hz
      cases hg
      obtain ⟨x, rfl, h⟩ := hx.one
      obtain ⟨u, rfl, ru⟩ := vals1 rs
      have hw := h.whole sub
      obtain ⟨as, h1, h2⟩ := hw.reads I u ru
      simp only [rpOk, Bool.and_eq_true] at hz
      obtain ⟨⟨z1, z2⟩, z3⟩ := hz
      have z2 := unhide z2
      have hsz : d.shown.length ≤ sizeLine := line_of z3
      have fin : ∀ h' t tk, (∀ b o, s.heap.get? b = some o → h'.get? b = some o) → EP X pins σ Q (.str d.shown t) { s with heap := h', toks := tk } := fun h' t tk kk =>
        ⟨.str d.shown, H, I.kept kk, ⟨t, rfl⟩, k _ _ (.same (.str _))⟩
      have un := hr.un
      have nsys : sysModules ∉ as := fun z => by
        obtain ⟨o, ho⟩ := sys
        exact h2 _ z (I.bs _ o ho).2
      cases d with
      | none => cases h1; exact PySem.P.repr_of_none (fin s.heap _ _ fun _ _ q => q)
      | bool b => cases h1; exact PySem.P.repr_of_bool (fin s.heap _ _ fun _ _ q => q)
      | int i => cases h1; exact PySem.P.repr_of_int (of_decide_eq_true z1) (fin s.heap _ _ fun _ _ q => q)
      | str y => cases h1; exact PySem.P.repr_of_str (fin s.heap _ _ fun _ _ q => q) hsz
      | list ys =>
        cases h1 with
        | list e1 e2 e3 e4 => exact repr_of_reads' (Reads.list e1 e2 e3 e4) z1 (fun _ => nsys) gd (by omega) (fun _ _ q => q) fin hsz
      | tuple ys =>
        cases h1 with
        | tuple e1 e2 e3 e4 => exact repr_of_reads' (Reads.tuple e1 e2 e3 e4) z1 (fun _ => nsys) gd (by omega) (fun _ _ q => q) fin hsz
      | dict ys =>
        cases h1 with
        | dict e1 e2 e3 e4 e5 => exact repr_of_reads' (Reads.dict e1 e2 e3 e4 e5) z1 (fun _ => nsys) gd (by omega) (fun _ _ q => q) fin hsz
    · cases hg
  · cases hg
end
end EL
/-! EL7: what changes a list or a dict of one's own; in; list(range(..)); several names at once. -/
namespace EL
open PySem PySem.Spec PyProof.Rows L2
variable [KC]

/-! ### lists of one's own -/
section
variable {K : PySem.W.Frag} {C : Cn} {G H : Hp} {own : Nat → Option Addr} {e : EE} {σ : L2.St}
theorem Rep.lst (R : Rep K C G own e σ H) {i : Nat} {ds : List D} (h : e.r[i]? = some (some (.ol ds))) :
    ∃ a vs, σ[i]? = some (some (.ref a)) ∧ H a = some (.lst vs) ∧ RpA K G vs ds ∧ ∀ vs' ds', RpA K G vs' ds' → Rep K C G own (e.put i (some (.ol ds'))) σ (upd H a (.lst vs')) := by
  obtain ⟨v, h1, a, vs, rfl, h2, h3, h4⟩ := R.slot i _ h
  exact ⟨a, vs, h1, h3, h4, fun vs' ds' ra => R.write h2 (ltOf h) h1 ⟨a, vs', rfl, h2, upd_same, ra⟩⟩
end
def lstAt (i : Nat) (e : EE) : Option (List D) := match e.r[i]? with
  | some (some (.ol ds)) => some ds
  | _ => none
theorem lstAt_some {i : Nat} {e : EE} {ds : List D} (h : lstAt i e = some ds) : e.r[i]? = some (some (.ol ds)) := by
  unfold lstAt at h
  split at h
  · rename_i q; cases h; exact q
  · cases h
def mAppend (i : Nat) (F : FE) : FE := fun e => (lstAt i e).bind fun _ => (F e).bind fun p => (lstAt i p.2).bind fun ds =>
  if hide (ds.length < 16777216) = true then some (.val .none, p.2.put i (some (.ol (ds ++ [p.1.d])))) else none
def mExtend (i : Nat) (A : FO) : FE := fun e => (lstAt i e).bind fun _ => (A e).bind fun p => (lstAt i p.2).bind fun ds => (p.1 p.2).bind fun d => match d with
  | .list xs => if small (ds.length + xs.length) = true then some (.val .none, p.2.put i (some (.ol (ds ++ xs)))) else none
  | _ => none
def mPop (i : Nat) : FE := fun e => (lstAt i e).bind fun ds => (ds[ds.length - 1]?).bind fun d => some (.val d, e.put i (some (.ol ds.dropLast)))
def mPopAt (i : Nat) (F : FE) : FE := fun e => (lstAt i e).bind fun _ => (F e).bind fun p => (lstAt i p.2).bind fun ds => match p.1 with
  | .val (.int k) => if inW k = true then (seqIndex? k ds.length).bind fun j => (ds[j]?).bind fun d => some (.val d, p.2.put i (some (.ol (ds.eraseIdx j)))) else none
  | _ => none
/-- x[k] = .. -/
def gSubL (i : Nat) (F : FE) : FG := fun d e => (lstAt i e).bind fun _ => (F e).bind fun p => (lstAt i p.2).bind fun ds => match p.1 with
  | .val (.int k) => (ixN ds.length k).bind fun j => some (p.2.put i (some (.ol (ds.set j d))))
  | _ => none
section
variable {X : Cx} {o e : Expr} {es : List Expr} {name : Str} {apos cpos : Pos}
theorem RpA.dropLast {K : PySem.W.Frag} {G : Hp} {vs : List V} {ds : List D} (h : RpA K G vs ds) : RpA K G vs.dropLast ds.dropLast := by
  rw [List.dropLast_eq_take, List.dropLast_eq_take, h.length]
  exact h.take _
theorem ed_append {i : Nat} {F : FE} (ho : PE X o (tVar i)) (he : ED X e F)
    (hbase : attributeBase o "append" X.env (eval o X.env) = eval o X.env := by rfl)
    (hfew : ((backTo cpos (starEach (e :: []) X.env)).all (fun x => !x.1) && (backToKw cpos (keywordEach [] X.env)).all (fun x => x.1.isSome) && decide ((e :: []).length + ([] : List Keyword).length + (if ([] : List Keyword).isEmpty then 0 else 1) < 30)) = true := by rfl)
    (hline : (apos.endLine == cpos.line) = true := by rfl) (hs : starEach (e :: []) X.env = (false, eval e X.env) :: starEach [] X.env := by rfl) : ED X (.Call (.Attribute o "append" apos) [e] [] cpos) (mAppend i F) := by
  refine peImp (pe_bm PySem.F.plainAttrs_list PySem.F.slot_list_append PySem.F.type_list_append mt_append ho (pa_cons he pa_nil hs) hbase hfew hline hs rfl) fun σ H Q w => ?_
  obtain ⟨C, G, own, ev, r, e', R, hf, k⟩ := w
  obtain ⟨ds0, q1, q2⟩ := bind_some_of hf
  obtain ⟨⟨r1, e1⟩, q3, q4⟩ := bind_some_of q2
  obtain ⟨ds, q5, q6⟩ := bind_some_of q4
  dsimp only at q6
  split at q6
  · rename_i hz
    cases q6
    obtain ⟨a, vs0, h1, h2, h3, _⟩ := R.lst (lstAt_some q1)
    refine ⟨_, h1, .inl ⟨rfl, _, .of h2⟩, C, G, own, ev, r1, e1, R, q3, fun y G1 own1 H1 l1 R1 ok => ?_⟩
    obtain ⟨G2, l2, R2, p⟩ := R1.frz ok
    obtain ⟨a', vs, g1, g2, g3, wr⟩ := R2.lst (lstAt_some q5)
    rw [h1] at g1; cases g1
    refine ⟨a, vs, y, rfl, rfl, g2, by rw [g3.length, sizeLine_eq]; exact unhide hz, ?_⟩
    exact k _ G2 own1 _ (l1.tr l2) (wr _ _ (g3.append (.cons p .nil))) Rp.non
  · cases q6
theorem ed_extend {i : Nat} {A : FO} (ho : PE X o (tVar i)) (he : OE X e A)
    (hbase : attributeBase o "extend" X.env (eval o X.env) = eval o X.env := by rfl)
    (hfew : ((backTo cpos (starEach (e :: []) X.env)).all (fun x => !x.1) && (backToKw cpos (keywordEach [] X.env)).all (fun x => x.1.isSome) && decide ((e :: []).length + ([] : List Keyword).length + (if ([] : List Keyword).isEmpty then 0 else 1) < 30)) = true := by rfl)
    (hline : (apos.endLine == cpos.line) = true := by rfl) (hs : starEach (e :: []) X.env = (false, eval e X.env) :: starEach [] X.env := by rfl) : ED X (.Call (.Attribute o "extend" apos) [e] [] cpos) (mExtend i A) := by
  refine peImp (pe_bm PySem.F.plainAttrs_list PySem.F.slot_list_extend PySem.F.type_list_extend mt_extend ho (pa_cons he pa_nil hs) hbase hfew hline hs rfl) fun σ H Q w => ?_
  obtain ⟨C, G, own, ev, r, e', R, hf, k⟩ := w
  obtain ⟨ds0, q1, q2⟩ := bind_some_of hf
  obtain ⟨⟨t, e1⟩, q3, q4⟩ := bind_some_of q2
  obtain ⟨ds, q5, q6⟩ := bind_some_of q4
  obtain ⟨d, q7, q8⟩ := bind_some_of q6
  split at q8
  · rename_i xs
    split at q8
    · rename_i hz
      cases q8
      obtain ⟨a, vs0, h1, h2, h3, _⟩ := R.lst (lstAt_some q1)
      refine ⟨_, h1, .inl ⟨rfl, _, .of h2⟩, C, G, own, ev, t, e1, R, q3, fun y G1 own1 H1 l1 R1 g => ?_⟩
      obtain ⟨b, ws, rfl, hb, rb⟩ := (g _ _ _ _ _ Le.rfl' R1 q7).list R1.sub
      obtain ⟨a', vs, g1, g2, g3, wr⟩ := R1.lst (lstAt_some q5)
      rw [h1] at g1; cases g1
      refine ⟨a, b, vs, ws, rfl, rfl, g2, hb, by rw [g3.length, rb.length]; exact line_of hz, ?_⟩
      exact k _ G1 own1 _ l1 (wr _ _ (g3.append rb)) Rp.non
    · cases q8
  · cases q8
theorem ed_pop {i : Nat} (ho : PE X o (tVar i)) (hbase : attributeBase o "pop" X.env (eval o X.env) = eval o X.env := by rfl) (hline : (apos.endLine == cpos.line) = true := by rfl) : ED X (.Call (.Attribute o "pop" apos) [] [] cpos) (mPop i) := by
  refine peImp (pe_bm0 PySem.F.plainAttrs_list PySem.F.slot_list_pop PySem.F.type_list_pop mt_pop ho hbase hline) fun σ H Q w => ?_
  obtain ⟨C, G, own, ev, r, e', R, hf, k⟩ := w
  obtain ⟨ds, q1, q2⟩ := bind_some_of hf
  obtain ⟨d, q3, q4⟩ := bind_some_of q2
  cases q4
  obtain ⟨a, vs, h1, h2, h3, wr⟩ := R.lst (lstAt_some q1)
  obtain ⟨v, g1, g2⟩ := h3.get q3
  exact ⟨_, h1, .inl ⟨rfl, _, .of h2⟩, a, vs, v, rfl, rfl, h2, by rw [h3.length]; exact g1, k v G own _ Le.rfl' (wr _ _ h3.dropLast) g2⟩
theorem ed_popAt {i : Nat} {F : FE} (ho : PE X o (tVar i)) (he : ED X e F)
    (hbase : attributeBase o "pop" X.env (eval o X.env) = eval o X.env := by rfl)
    (hfew : ((backTo cpos (starEach (e :: []) X.env)).all (fun x => !x.1) && (backToKw cpos (keywordEach [] X.env)).all (fun x => x.1.isSome) && decide ((e :: []).length + ([] : List Keyword).length + (if ([] : List Keyword).isEmpty then 0 else 1) < 30)) = true := by rfl)
    (hline : (apos.endLine == cpos.line) = true := by rfl) (hs : starEach (e :: []) X.env = (false, eval e X.env) :: starEach [] X.env := by rfl) : ED X (.Call (.Attribute o "pop" apos) [e] [] cpos) (mPopAt i F) := by
  refine peImp (pe_bm PySem.F.plainAttrs_list PySem.F.slot_list_pop PySem.F.type_list_pop mt_popAt ho (pa_cons he pa_nil hs) hbase hfew hline hs rfl) fun σ H Q w => ?_
  obtain ⟨C, G, own, ev, r, e', R, hf, k⟩ := w
  obtain ⟨ds0, q1, q2⟩ := bind_some_of hf
  obtain ⟨⟨r1, e1⟩, q3, q4⟩ := bind_some_of q2
  obtain ⟨ds, q5, q6⟩ := bind_some_of q4
  dsimp only at q6
  split at q6
  · rename_i n
    split at q6
    · rename_i hz
      obtain ⟨j, q7, q8⟩ := bind_some_of q6
      obtain ⟨d, q9, q10⟩ := bind_some_of q8
      cases q10
      obtain ⟨a, vs0, h1, h2, h3, _⟩ := R.lst (lstAt_some q1)
      refine ⟨_, h1, .inl ⟨rfl, _, .of h2⟩, C, G, own, ev, _, e1, R, q3, fun y G1 own1 H1 l1 R1 ok => ?_⟩
      have ok : Rp X.K G1 y (.int n) := ok
      cases ok
      obtain ⟨a', vs, g1, g2, g3, wr⟩ := R1.lst (lstAt_some q5)
      rw [h1] at g1; cases g1
      obtain ⟨v, y1, y2⟩ := g3.get q9
      obtain ⟨b1, b2⟩ := unhide hz
      exact ⟨a, vs, n, j, v, rfl, rfl, g2, by omega, by omega, by rw [g3.length]; exact q7, y1, k v G1 own1 _ l1 (wr _ _ (g3.erase j)) y2⟩
    · cases q6
  · cases q6
theorem gd_subL {i : Nat} {F : FE} {ix : Expr} {pos : Pos} (ho : PE X o (tVar i)) (hi : ED X ix F)
    (ha : ∀ v, assign (.Subscript o ix pos) X.env v = (do
      let ov ← holding [v] (eval o X.env)
      let iv ← holding [v, ov] (eval ix X.env)
      standAt pos
      holding [v, ov, iv] (setItem ov iv v)
      release [v, ov, iv] []) := by intro _; rfl) : GD X (.Subscript o ix pos) (gSubL i F) := by
  refine pgImp (pg_sub ho hi set_list ha) fun v σ H Q w => ?_
  obtain ⟨C, G, own, ev, d, e', R, rp, hf, k⟩ := w
  obtain ⟨ds0, q1, q2⟩ := bind_some_of hf
  obtain ⟨⟨r1, e1⟩, q3, q4⟩ := bind_some_of q2
  obtain ⟨ds, q5, q6⟩ := bind_some_of q4
  dsimp only at q6
  split at q6
  · rename_i n
    obtain ⟨j, q7, q8⟩ := bind_some_of q6
    cases q8
    obtain ⟨a, vs0, h1, h2, h3, _⟩ := R.lst (lstAt_some q1)
    refine ⟨_, h1, C, G, own, ev, _, e1, R, q3, fun y G1 own1 H1 l1 R1 ok => ?_⟩
    have ok : Rp X.K G1 y (.int n) := ok
    cases ok
    obtain ⟨a', vs, g1, g2, g3, wr⟩ := R1.lst (lstAt_some q5)
    rw [h1] at g1; cases g1
    exact ⟨a, vs, n, j, rfl, rfl, g2, by rw [g3.length]; exact q7, k σ G1 own1 _ l1 (wr _ _ (g3.set (rp.mono l1) j))⟩
  · cases q6
end

/-! ### dicts: keys and how they are found -/
theorem eqv_kd (a b : Key) : PyData.eqv (kd a) (kd b) = decide (a = b) := by
  rcases a with a | a <;> rcases b with b | b
  · simp only [kd, PyData.eqv]; rw [Bool.eq_iff_iff]; simp
  · simp [kd, PyData.eqv]
  · simp [kd, PyData.eqv]
  · simp only [kd, PyData.eqv]; rw [Bool.eq_iff_iff]; simp
theorem eqv_kds : ∀ a b : List Key, PyData.eqvAll (a.map kd) (b.map kd) = decide (a = b)
  | [], [] => rfl
  | [], b :: bs => by simp [PyData.eqvAll]
  | a :: as, [] => by simp [PyData.eqvAll]
  | a :: as, b :: bs => by
    simp only [List.map_cons, PyData.eqvAll, eqv_kd, eqv_kds as bs]
    rw [Bool.eq_iff_iff]; simp
def tkd (a : List Key) : D := .tuple (a.map kd)
theorem eqv_tkd (a b : List Key) : PyData.eqv (tkd a) (tkd b) = decide (a = b) := by
  simp only [tkd, PyData.eqv]; exact eqv_kds a b
def dLook (kvs : List (D × D)) (k : D) : Option D := (kvs.find? fun q => PyData.eqv q.1 k).map (·.2)
def dPut (kvs : List (D × D)) (k v : D) : List (D × D) := if (kvs.any fun q => PyData.eqv q.1 k) = true then kvs.map (fun q => if PyData.eqv q.1 k = true then (q.1, v) else q) else kvs ++ [(k, v)]
def keyOf : D → Option Key
  | .int i => some (.inl i)
  | .str x => some (.inr x)
  | _ => none
theorem keyOf_some {d : D} {k : Key} (h : keyOf d = some k) : d = kd k := by
  cases d <;> first | (cases h; rfl) | cases h
def keysOf : List D → Option (List Key)
  | [] => some []
  | d :: ds => (keyOf d).bind fun k => (keysOf ds).bind fun ks => some (k :: ks)
theorem keysOf_some : ∀ {ds : List D} {ks : List Key}, keysOf ds = some ks → ds = ks.map kd
  | [], ks, h => by cases h; rfl
  | d :: ds, ks, h => by
    obtain ⟨k, h1, h2⟩ := bind_some_of h
    obtain ⟨ks', h3, h4⟩ := bind_some_of h2
    cases h4
    rw [keyOf_some h1, keysOf_some h3]; rfl
section
variable {κ : Type} [DecidableEq κ] {ek : κ → D} {K : PySem.W.Frag} {G : Hp}
theorem look_ok (ei : ∀ a b, PyData.eqv (ek a) (ek b) = decide (a = b)) : ∀ {l : List (κ × V)} {ds : List D}, RpA K G (l.map (·.2)) ds → ∀ k,
    (∀ d, dLook ((l.map fun q => ek q.1).zip ds) (ek k) = some d → ∃ v, valV l k = some v ∧ Rp K G v d) ∧ (dLook ((l.map fun q => ek q.1).zip ds) (ek k) = none → valV l k = none)
  | [], ds, h, k => ⟨fun d q => by simp [dLook] at q, fun _ => rfl⟩
  | (a, v) :: l, ds, h, k => by
    cases h with
    | @cons _ _ d ds' h1 h2 =>
      have ih := look_ok ei h2 k
      by_cases z : a = k
      · subst z
        have e : dLook ((((a, v) :: l).map fun q => ek q.1).zip (d :: ds')) (ek a) = some d := by simp [dLook, ei]
        refine ⟨fun d' q => ?_, fun q => ?_⟩
        · rw [e] at q; cases q; exact ⟨v, by simp [valV], h1⟩
        · rw [e] at q; cases q
      · have e : dLook ((((a, v) :: l).map fun q => ek q.1).zip (d :: ds')) (ek k) = dLook ((l.map fun q => ek q.1).zip ds') (ek k) := by simp [dLook, ei, z]
        have e2 : valV ((a, v) :: l) k = valV l k := by simp [valV, z]
        rw [e, e2]; exact ih
theorem any_ok (ei : ∀ a b, PyData.eqv (ek a) (ek b) = decide (a = b)) : ∀ {l : List (κ × V)} {ds : List D}, RpA K G (l.map (·.2)) ds → ∀ k,
    (((l.map fun q => ek q.1).zip ds).any fun q => PyData.eqv q.1 (ek k)) = l.any fun kv => decide (kv.1 = k)
  | [], ds, h, k => rfl
  | (a, v) :: l, ds, h, k => by
    cases h with
    | @cons _ _ d ds' h1 h2 => simp only [List.map_cons, List.zip_cons_cons, List.any_cons, ei, any_ok ei h2 k]
theorem map_ok (ei : ∀ a b, PyData.eqv (ek a) (ek b) = decide (a = b)) : ∀ {l : List (κ × V)} {ds : List D}, RpA K G (l.map (·.2)) ds → ∀ (k : κ) (v : V) (d : D), Rp K G v d →
    ∃ ds', RpA K G ((l.map (fun kv => if kv.1 = k then (kv.1, v) else kv)).map (·.2)) ds' ∧ ((l.map fun q => ek q.1).zip ds).map (fun q => if PyData.eqv q.1 (ek k) = true then (q.1, d) else q) = ((l.map (fun kv => if kv.1 = k then (kv.1, v) else kv)).map fun q => ek q.1).zip ds'
  | [], ds, h, k, v, d, r => ⟨[], .nil, by simp⟩
  | (a, u) :: l, ds, h, k, v, d, r => by
    cases h with
    | @cons _ _ d0 ds' h1 h2 =>
      obtain ⟨es, q1, q2⟩ := map_ok ei h2 k v d r
      by_cases z : a = k
      · subst z
        refine ⟨d :: es, ?_, ?_⟩
        · simp only [List.map_cons, if_true]; exact .cons r q1
        · simp only [List.map_cons, List.zip_cons_cons, ei, decide_true, if_true, q2]
      · refine ⟨d0 :: es, ?_, ?_⟩
        · simp only [List.map_cons, if_neg z]; exact .cons h1 q1
        · simp only [List.map_cons, List.zip_cons_cons, ei, decide_eq_false z, if_neg z, q2]; simp
theorem put_ok (ei : ∀ a b, PyData.eqv (ek a) (ek b) = decide (a = b)) {l : List (κ × V)} {ds : List D} (h : RpA K G (l.map (·.2)) ds) (k : κ) {v : V} {d : D} (r : Rp K G v d) :
    ∃ ds', RpA K G ((putK l k v).map (·.2)) ds' ∧ dPut ((l.map fun q => ek q.1).zip ds) (ek k) d = ((putK l k v).map fun q => ek q.1).zip ds' := by
  unfold dPut putK
  rw [any_ok ei h k]
  split
  · exact map_ok ei h k v d r
  · refine ⟨ds ++ [d], by rw [List.map_append]; exact h.append (.cons r .nil), ?_⟩
    have ln : (l.map fun q => ek q.1).length = ds.length := by have := h.length; simpa using this
    rw [List.map_append, List.zip_append ln]; rfl
end
/-- what is found in a dict: an entry's value, or nothing -/
def DLk (K : PySem.W.Frag) (G H : Hp) (a : Addr) (y : V) (o : Option D) : Prop := ∃ r, DGet H a y r ∧ match o, r with
  | some d, some v => Rp K G v d
  | none, none => True
  | _, _ => False
/-- a key that may be looked up, put in -/
inductive IsKey (K : PySem.W.Frag) (G : Hp) : V → D → Prop
  | k {k : Key} : IsKey K G (kV k) (kd k)
  | t {b : Addr} {ks : List Key} (h : G b = some (.tup (ks.map kV))) : IsKey K G (.ref b) (tkd ks)
/-- keys of the one sort, keys of the other -/
def tupKey : D → Bool
  | .tuple _ => true
  | _ => false
def okKey : D → Bool
  | .int _ => true
  | .str _ => true
  | .tuple ds => (keysOf ds).isSome && !KC.kc (.tuple ds)
  | _ => false
section
variable {K : PySem.W.Frag} {G H : Hp}
theorem RpA.keys {vs : List V} {ks : List Key} (h : RpA K G vs (ks.map kd)) : vs = ks.map kV := by
  induction ks generalizing vs with
  | nil => cases h; rfl
  | cons k ks ih =>
    cases h with
    | cons h1 h2 =>
      rw [List.map_cons, ← ih h2]
      rcases k with k | k
      · have h1 : Rp K G _ (.int k) := h1
        cases h1; rfl
      · have h1 : Rp K G _ (.str k) := h1
        cases h1; rfl
theorem Rp.key {v : V} {d : D} (c : okKey d = true) (h : Rp K G v d) : IsKey K G v d := by
  cases h with
  | int i => exact .k (k := .inl i)
  | str x => exact .k (k := .inr x)
  | @tup a vs ds h r =>
    simp only [okKey, Bool.and_eq_true] at c
    obtain ⟨ks, hk⟩ := Option.isSome_iff_exists.mp c.1
    have := keysOf_some hk
    subst this
    rw [r.keys] at h
    exact .t h
  | kon h r q => simp only [okKey, Bool.and_eq_true, Bool.not_eq_true'] at c; rw [q] at c; exact absurd c.2 (by decide)
  | _ => simp [okKey] at c
theorem DLk.of (l : Le G H) {p : Addr} {y : V} {b : Bool} {kvs : List (D × D)} {k : D} (hd : OdOk K G H p b kvs) (hk : IsKey K G y k) (hs : tupKey k = b) : DLk K G H p y (dLook kvs k) := by
  rcases hd with ⟨rfl, l', ds, h1, h2, rfl⟩ | ⟨rfl, l', ds, h1, h2, rfl⟩
  · cases hk with
    | @k k =>
      have lk := look_ok eqv_kd h2 k
      cases e : dLook ((l'.map fun q => kd q.1).zip ds) (kd k) with
      | none => exact ⟨none, by rw [← lk.2 e]; exact DGet.k h1, trivial⟩
      | some d => obtain ⟨v, q1, q2⟩ := lk.1 d e; exact ⟨some v, by rw [← q1]; exact DGet.k h1, q2⟩
    | t h => simp [tupKey, tkd] at hs
  · cases hk with
    | @k k => rcases k with k | k <;> simp [tupKey, kd] at hs
    | @t b ks h =>
      have lk := look_ok eqv_tkd h2 ks
      cases e : dLook ((l'.map fun q => tkd q.1).zip ds) (tkd ks) with
      | none => exact ⟨none, by rw [← lk.2 e]; exact DGet.t h1 (l _ _ h), by rw [show dLook ((l'.map fun q => PyData.tuple (q.1.map kd)).zip ds) (tkd ks) = none from e]; trivial⟩
      | some d => obtain ⟨v, q1, q2⟩ := lk.1 d e; exact ⟨some v, by rw [← q1]; exact DGet.t h1 (l _ _ h), by rw [show dLook ((l'.map fun q => PyData.tuple (q.1.map kd)).zip ds) (tkd ks) = some d from e]; exact q2⟩
/-- the sort of a frozen dict's keys, by its first one -/
def sortOf (kvs : List (D × D)) : Option Bool := match kvs with
  | [] => none
  | q :: _ => some (tupKey q.1)
theorem Rr.sort {v : V} {kvs : List (D × D)} (l : Le G H) (h : Rr K G H v (.dict kvs)) {b : Bool} (hb : sortOf kvs = some b) : ∃ p, v = .ref p ∧ OdOk K G H p b kvs := by
  have key : ∀ {p : Addr} {b' : Bool}, OdOk K G H p b' kvs → OdOk K G H p b kvs := fun {p b'} h => by
    rcases h with ⟨rfl, l', ds, h1, h2, rfl⟩ | ⟨rfl, l', ds, h1, h2, rfl⟩
    · cases l' with
      | nil => cases hb
      | cons q l' => cases ds with
        | nil => cases h2
        | cons d ds =>
          have : b = false := by rcases q with ⟨q | q, _⟩ <;> (cases hb; rfl)
          subst this
          exact .inl ⟨rfl, q :: l', d :: ds, h1, h2, rfl⟩
    · cases l' with
      | nil => cases hb
      | cons q l' => cases ds with
        | nil => cases h2
        | cons d ds =>
          have : b = true := by cases hb; rfl
          subst this
          exact .inr ⟨rfl, q :: l', d :: ds, h1, h2, rfl⟩
  generalize hd : PyData.dict kvs = d at h
  cases h with
  | frz h =>
    cases h with
    | @dk a l' ds h r => cases hd; exact ⟨a, rfl, key (.inl ⟨rfl, l', ds, l _ _ h, r, rfl⟩)⟩
    | @dt a l' ds h r => cases hd; exact ⟨a, rfl, key (.inr ⟨rfl, l', ds, l _ _ h, r, rfl⟩)⟩
    | _ => cases hd
  | lst h r => cases hd
  | dic h => cases hd; exact ⟨_, rfl, key h⟩
end
end EL
/-! EL8: == of texts, in, list(range(..)), several names at once, dicts of one's own. -/
namespace EL
open PySem PySem.Spec PyProof.Rows L2
variable [KC]

/-! ### == and != once more: texts need no look at their signs -/
def qEq : D → D → Option Rs
  | .str a, .str b => some (.val (.bool (decide (a = b))))
  | x, y => gEq x y
def qNe : D → D → Option Rs
  | .str a, .str b => some (.val (.bool (!decide (a = b))))
  | x, y => gNe x y
section
variable {X : Cx}
theorem q_eq (hu : X.A.units + 64 < cLine) : OpD X (compareOp .Eq) qEq := by
  intro pins s σ H x y v u Q I rx ry h
  obtain ⟨G, dx, dy, r, sub, hx, hy, hg, k⟩ := h
  unfold qEq at hg
  split at hg
  · cases hg; cases hx.str; cases hy.str
    refine op_eq pins s σ H _ _ v u Q I rx ry ⟨rfl, ?_⟩
    rw [dec_str, Bool.beq_eq_decide_eq]; exact k _ _ (.same (.bl _))
  · exact o_eq hu pins s σ H x y v u Q I rx ry ⟨G, dx, dy, r, sub, hx, hy, hg, k⟩
theorem q_ne (hu : X.A.units + 64 < cLine) : OpD X (compareOp .NotEq) qNe := by
  intro pins s σ H x y v u Q I rx ry h
  obtain ⟨G, dx, dy, r, sub, hx, hy, hg, k⟩ := h
  unfold qNe at hg
  split at hg
  · cases hg; cases hx.str; cases hy.str
    refine op_ne pins s σ H _ _ v u Q I rx ry ⟨rfl, ?_⟩
    rw [dec_str, Bool.beq_eq_decide_eq]; exact k _ _ (.same (.bl _))
  · exact o_ne hu pins s σ H x y v u Q I rx ry ⟨G, dx, dy, r, sub, hx, hy, hg, k⟩

/-! ### in a list, a tuple -/
def flatD : D → Bool
  | .none => true
  | .bool _ => true
  | .int _ => true
  | .str _ => true
  | _ => false
theorem Rp.flat {K : PySem.W.Frag} {G : Hp} {v : V} {d : D} (h : Rp K G v d) (f : flatD d = true) : flatV v = true := by cases h <;> first | rfl | cases f
theorem eqV_D {K : PySem.W.Frag} {G : Hp} {v w : V} {d e : D} (h : Rp K G v d) (g : Rp K G w e) (f : flatD d = true) (f' : flatD e = true) : eqV v w = PyData.eqv d e := by
  cases d with
  | list _ => cases f
  | tuple _ => cases f
  | dict _ => cases f
  | none => cases h; cases e <;> first | (cases g; simp [eqV, PyData.eqv]; done) | exact absurd f' Bool.false_ne_true
  | bool _ => cases h; cases e <;> first | (cases g; simp [eqV, PyData.eqv]; done) | exact absurd f' Bool.false_ne_true
  | int _ => cases h; cases e <;> first | (cases g; simp [eqV, PyData.eqv]; done) | exact absurd f' Bool.false_ne_true
  | str _ => cases h; cases e <;> first | (cases g; simp [eqV, PyData.eqv]; done) | exact absurd f' Bool.false_ne_true
def gIn : D → D → Option Rs
  | d, .list ds => if (flatD d && ds.all flatD) = true then some (.val (.bool (ds.any fun z => PyData.eqv z d))) else if (SeqAt.shaped d && SeqAt.shaped (.list ds)) = true then some (.val (.bool (ds.any fun z => PyData.eqv z d))) else none
  | d, .tuple ds => if (flatD d && ds.all flatD) = true then some (.val (.bool (ds.any fun z => PyData.eqv z d))) else none
  | _, _ => none
def gNin : D → D → Option Rs
  | d, .list ds => if (flatD d && ds.all flatD) = true then some (.val (.bool (!ds.any fun z => PyData.eqv z d))) else if (SeqAt.shaped d && SeqAt.shaped (.list ds)) = true then some (.val (.bool (!ds.any fun z => PyData.eqv z d))) else none
  | d, .tuple ds => if (flatD d && ds.all flatD) = true then some (.val (.bool (!ds.any fun z => PyData.eqv z d))) else none
  | _, _ => none
theorem RpA.flats {K : PySem.W.Frag} {G : Hp} {vs : List V} {ds : List D} (h : RpA K G vs ds) (f : ds.all flatD = true) : vs.all flatV = true := by
  induction ds generalizing vs with
  | nil => cases h; rfl
  | cons d ds ih =>
    cases h with
    | cons h1 h2 =>
      rw [List.all_cons, Bool.and_eq_true] at f ⊢
      exact ⟨h1.flat f.1, ih h2 f.2⟩
theorem RpA.inD {K : PySem.W.Frag} {G : Hp} {w : V} {e : D} (g : Rp K G w e) (f' : flatD e = true) {vs : List V} {ds : List D} (h : RpA K G vs ds) (f : ds.all flatD = true) : inV w vs = ds.any fun z => PyData.eqv z e := by
  induction ds generalizing vs with
  | nil => cases h; rfl
  | cons d ds ih =>
    cases h with
    | cons h1 h2 =>
      rw [List.all_cons, Bool.and_eq_true] at f
      have := ih h2 f.2
      unfold inV at this ⊢
      rw [List.any_cons, List.any_cons, this, eqV_D h1 g f.1 f']
theorem Rr.flatRp {K : PySem.W.Frag} {G H : Hp} {v : V} {d : D} (h : Rr K G H v d) (f : flatD d = true) : Rp K G v d := by
  cases h with
  | frz h => exact h
  | lst h r => cases f
  | dic h => cases f
theorem o_in (hu : X.A.units + 65 < cLine) : OpD X (compareOp .In) gIn := by
  intro pins s σ H x y v u Q I rx ry h
  obtain ⟨G, dx, dy, r, sub, hx, hy, hg, k⟩ := h
  unfold gIn at hg
  split at hg
  · split at hg
    · rename_i d ds hz; cases hg
      rw [Bool.and_eq_true] at hz
      obtain ⟨p, vs, rfl, h1, h2⟩ := hy.list sub
      have hf := hx.flatRp hz.1
      refine op_in_seq pins s σ H _ _ v u Q I rx ry ⟨p, vs, rfl, .inl (.of h1), hf.flat hz.1, h2.flats hz.2, ?_⟩
      rw [if_neg Bool.false_ne_true, h2.inD hf hz.1 hz.2]
      exact k _ _ (.same (.bl _))
    · split at hg
      · rename_i hz; cases hg
        rw [Bool.and_eq_true] at hz
        exact op_inD hu pins s σ H _ _ v u Q I rx ry ⟨_, _, hx.dp sub hz.1, hy.dp sub hz.2, hz.1, hz.2, k _ _ (.same (.bl _))⟩
      · cases hg
  · split at hg
    · rename_i d ds hz; cases hg
      rw [Bool.and_eq_true] at hz
      obtain ⟨p, vs, rfl, h1, h2⟩ := hy.tup sub
      have hf := hx.flatRp hz.1
      refine op_in_seq pins s σ H _ _ v u Q I rx ry ⟨p, vs, rfl, .inr h1, hf.flat hz.1, h2.flats hz.2, ?_⟩
      rw [if_neg Bool.false_ne_true, h2.inD hf hz.1 hz.2]
      exact k _ _ (.same (.bl _))
    · cases hg
  · cases hg
theorem o_nin (hu : X.A.units + 65 < cLine) : OpD X (compareOp .NotIn) gNin := by
  intro pins s σ H x y v u Q I rx ry h
  obtain ⟨G, dx, dy, r, sub, hx, hy, hg, k⟩ := h
  unfold gNin at hg
  split at hg
  · split at hg
    · rename_i d ds hz; cases hg
      rw [Bool.and_eq_true] at hz
      obtain ⟨p, vs, rfl, h1, h2⟩ := hy.list sub
      have hf := hx.flatRp hz.1
      refine op_notIn_seq pins s σ H _ _ v u Q I rx ry ⟨p, vs, rfl, .inl (.of h1), hf.flat hz.1, h2.flats hz.2, ?_⟩
      rw [if_pos rfl, h2.inD hf hz.1 hz.2]
      exact k _ _ (.same (.bl _))
    · split at hg
      · rename_i hz; cases hg
        rw [Bool.and_eq_true] at hz
        exact op_notInD hu pins s σ H _ _ v u Q I rx ry ⟨_, _, hx.dp sub hz.1, hy.dp sub hz.2, hz.1, hz.2, k _ _ (.same (.bl _))⟩
      · cases hg
  · split at hg
    · rename_i d ds hz; cases hg
      rw [Bool.and_eq_true] at hz
      obtain ⟨p, vs, rfl, h1, h2⟩ := hy.tup sub
      have hf := hx.flatRp hz.1
      refine op_notIn_seq pins s σ H _ _ v u Q I rx ry ⟨p, vs, rfl, .inr h1, hf.flat hz.1, h2.flats hz.2, ?_⟩
      rw [if_pos rfl, h2.inD hf hz.1 hz.2]
      exact k _ _ (.same (.bl _))
    · cases hg
  · cases hg
end

/-! ### several names at once -/
def NotIn (a : Addr) : List V → List Rs → Prop
  | v :: vs, r :: rs => (v = .ref a → ∃ d, r = .val d) ∧ NotIn a vs rs
  | _, _ => True
def RsA (K : PySem.W.Frag) (C : Cn) (G : Hp) (own : Nat → Option Addr) (H : Hp) : List V → List Rs → Prop
  | [], [] => True
  | v :: vs, r :: rs => RsOk K C G own H v r ∧ (∀ a, v = .ref a → (∀ d, r ≠ .val d) → NotIn a vs rs) ∧ RsA K C G own H vs rs
  | _, _ => False
abbrev FR := EE → Option (List Rs × EE)
def tR (K : PySem.W.Frag) (F : FR) : TA := fun σ H Q => ∃ C G own e rs e', Rep K C G own e σ H ∧ F e = some (rs, e') ∧ ∀ vs G' own' H', Le G G' → Rep K C G' own' e' σ H' → RsA K C G' own' H' vs rs → Q vs H'
def rNil : FR := fun e => some ([], e)
def rCons (F : FE) (B : FR) : FR := fun e => (F e).bind fun p => (B p.2).bind fun q => some (p.1 :: q.1, q.2)
section
variable {K : PySem.W.Frag} {C C' : Cn} {G H : Hp} {own : Nat → Option Addr} {e : EE} {σ : L2.St}
theorem RsA.weak (h0 : ∀ a, C.H0 a ≠ none → C'.H0 a ≠ none) : ∀ {vs : List V} {rs : List Rs}, RsA K C' G own H vs rs → RsA K C G own H vs rs
  | [], [], _ => trivial
  | v :: vs, r :: rs, ⟨h1, h2, h3⟩ => by
    refine ⟨h1.le Le.rfl' fun p u _ g c o hu => ⟨hu, g, ?_, o⟩, h2, RsA.weak h0 h3⟩
    cases z : C.H0 p with
    | none => rfl
    | some w => exact absurd c (h0 p (by rw [z]; exact (fun z => nomatch z)))
  | [], _ :: _, h => h.elim
  | _ :: _, [], h => h.elim
theorem RsA.apart {a : Addr} (ha : C.H0 a ≠ none) : ∀ {vs : List V} {rs : List Rs}, RsA K C G own H vs rs → NotIn a vs rs
  | [], [], _ => trivial
  | v :: vs, r :: rs, ⟨h1, h2, h3⟩ => by
    refine ⟨fun z => ?_, RsA.apart ha h3⟩
    cases r with
    | val d => exact ⟨d, rfl⟩
    | fl ds => obtain ⟨p, ws, q1, _, _, _, q2, _⟩ := h1; rw [z] at q1; cases q1; exact absurd q2 ha
    | fd b kvs => obtain ⟨p, q1, _, _, q2, _⟩ := h1; rw [z] at q1; cases q1; exact absurd q2 ha
  | [], _ :: _, h => h.elim
  | _ :: _, [], h => h.elim
theorem RsA.length : ∀ {vs : List V} {rs : List Rs}, RsA K C G own H vs rs → vs.length = rs.length
  | [], [], _ => rfl
  | v :: vs, r :: rs, ⟨_, _, h3⟩ => by simp [RsA.length h3]
  | [], _ :: _, h => h.elim
  | _ :: _, [], h => h.elim
end
section
variable {X : Cx}
theorem rs_nil : PA X [] (tR X.K rNil) := by
  refine paImp pa_nil fun σ H Q w => ?_
  obtain ⟨C, G, own, ev, t, e', R, hf, k⟩ := w
  cases hf
  exact k [] G own H Le.rfl' R trivial
theorem rs_cons {e : Expr} {es : List Expr} {A : FE} {B : FR} (ha : ED X e A) (hb : PA X es (tR X.K B)) (hs : starEach (e :: es) X.env = (false, eval e X.env) :: starEach es X.env := by rfl) : PA X (e :: es) (tR X.K (rCons A B)) := by
  refine paImp (pa_cons ha hb hs) fun σ H Q w => ?_
  obtain ⟨C, G, own, ev, t, e', R, hf, k⟩ := w
  obtain ⟨⟨r1, e1⟩, h1, h2⟩ := bind_some_of hf
  obtain ⟨⟨rs, e2⟩, h3, h4⟩ := bind_some_of h2
  cases h4
  refine ⟨C, G, own, ev, r1, e1, R, h1, fun v G1 own1 H1 l1 R1 ok => ?_⟩
  obtain ⟨C', so, h0, hp, R1', back⟩ := R1.aside ok
  refine ⟨C', G1, own1, e1, rs, e2, R1', h3, fun vs G2 own2 H2 l2 R2 rsa => ?_⟩
  obtain ⟨R2c, ok2⟩ := back G2 own2 e2 σ H2 l2 R2
  exact k (v :: vs) G2 own2 H2 (l1.tr l2) R2c ⟨ok2, fun a za zr => rsa.apart (hp a za zr), rsa.weak h0⟩
end
/-- a result goes to a slot; what else is in hand stays in hand -/
theorem Rep.store2 {K : PySem.W.Frag} {C : Cn} {G H : Hp} {own : Nat → Option Addr} {e : EE} {σ : L2.St} {v : V} {r : Rs} (R : Rep K C G own e σ H) {vs : List V} {rs : List Rs} (h : RsA K C G own H (v :: vs) (r :: rs)) {i : Nat} (hi : i < e.r.length) :
    ∃ own', Rep K C G own' (e.put i (some r.ent)) (σ.set i (some v)) H ∧ RsA K C G own' H vs rs := by
  obtain ⟨h1, h2, h3⟩ := h
  have key : ∀ own' : Nat → Option Addr, (∀ k a, own' k = some a → own k = some a ∨ (v = .ref a ∧ ∀ d, r ≠ .val d)) → RsA K C G own' H vs rs := by
    intro own' ho
    have aux : ∀ {vs : List V} {rs : List Rs}, (∀ a, v = .ref a → (∀ d, r ≠ .val d) → NotIn a vs rs) → RsA K C G own H vs rs → RsA K C G own' H vs rs := by
      intro vs
      induction vs with
      | nil => intro rs _ h; cases rs with
        | nil => trivial
        | cons _ _ => exact h.elim
      | cons w vs ih =>
        intro rs hn h
        cases rs with
        | nil => exact h.elim
        | cons q rs =>
          obtain ⟨g1, g2, g3⟩ := h
          refine ⟨?_, g2, ih (fun a za zr => (hn a za zr).2) g3⟩
          cases q with
          | val d => exact g1
          | fl ds =>
            obtain ⟨p, us, rfl, y1, y2, y3, y4, y5⟩ := g1
            refine ⟨p, us, rfl, y1, y2, y3, y4, fun k z => ?_⟩
            rcases ho k p z with z | ⟨z1, z2⟩
            · exact y5 k z
            · obtain ⟨d, hd⟩ := (hn p z1 z2).1 rfl; cases hd
          | fd b kvs =>
            obtain ⟨p, rfl, y1, y3, y4, y5⟩ := g1
            refine ⟨p, rfl, y1, y3, y4, fun k z => ?_⟩
            rcases ho k p z with z | ⟨z1, z2⟩
            · exact y5 k z
            · obtain ⟨d, hd⟩ := (hn p z1 z2).1 rfl; cases hd
    exact aux h2 h3
  obtain ⟨own', R', ho⟩ := R.store h1 hi
  exact ⟨own', R', key own' ho⟩
def storeL : List Nat → List Rs → EE → Option EE
  | [], [], e => some e
  | i :: is, r :: rs, e => if i < e.r.length then storeL is rs (e.put i (some r.ent)) else none
  | _, _, _ => none
def setL (σ : L2.St) : List Nat → List V → L2.St
  | i :: is, v :: vs => setL (σ.set i (some v)) is vs
  | _, _ => σ
theorem storeL_len : ∀ {is : List Nat} {rs : List Rs} {e e' : EE}, storeL is rs e = some e' → rs.length = is.length := by
  intro is
  induction is with
  | nil => intro rs e e' h; cases rs with
    | nil => rfl
    | cons _ _ => cases h
  | cons i is ih => intro rs e e' h; cases rs with
    | nil => cases h
    | cons r rs =>
      unfold storeL at h
      split at h
      · simp [ih h]
      · cases h
theorem Rep.storeAll {K : PySem.W.Frag} {C : Cn} {G H : Hp} : ∀ {is : List Nat} {vs : List V} {rs : List Rs} {own : Nat → Option Addr} {e e' : EE} {σ : L2.St}, Rep K C G own e σ H → RsA K C G own H vs rs → storeL is rs e = some e' →
    ∃ own', Rep K C G own' e' (setL σ is vs) H := by
  intro is
  induction is with
  | nil =>
    intro vs rs own e e' σ R ra h
    cases rs with
    | nil => cases h; cases vs with
      | nil => exact ⟨own, R⟩
      | cons _ _ => exact ra.elim
    | cons _ _ => cases h
  | cons i is ih =>
    intro vs rs own e e' σ R ra h
    cases rs with
    | nil => cases h
    | cons r rs =>
      cases vs with
      | nil => exact ra.elim
      | cons v vs =>
        unfold storeL at h
        split at h
        · rename_i hi
          obtain ⟨own', R', ra'⟩ := R.store2 ra hi
          exact ih R' ra' h
        · cases h
/-- a, b, .. = x, y, .. -/
def sPar (is : List Nat) (B : FR) : FS := fun e => (B e).bind fun p => (storeL is p.1 p.2).bind fun e' => some (.nx, e')
section
variable {X : Cx}
theorem sd_par {i j : Nat} {x y : Str} {a b : Expr} {B : FR} {px py pt pos : Pos} {kt k2 pt2} (hc : X.calm = true) (hN : X.N.Nodup) (hi : X.N[i]? = some x) (hj : X.N[j]? = some y) (hij : i ≠ j)
    (hx : X.env.scope.names.lookup x = some .local) (hy : X.env.scope.names.lookup y = some .local) (ha : PA X [a, b] (tR X.K B))
    (hw : swappedStores [.Tuple [.Name x px, .Name y py] kt pt] (.Tuple [a, b] k2 pt2) X.env = pure (some [x, y]))
    (hs : swapsWithSole [.Tuple [.Name x px, .Name y py] kt pt] (.Tuple [a, b] k2 pt2) pos.line X.env = pure false := by rfl) : SD X (.Assign [.Tuple [.Name x px, .Name y py] kt pt] (.Tuple [a, b] k2 pt2) pos) (sPar [i, j] B) := by
  refine psImp (ps_par hc hN hi hj hij hx hy ha hw hs) fun D σ H w => ?_
  obtain ⟨C, G, own, ev, fl, e', R, hf, k⟩ := w
  obtain ⟨⟨rs, e1⟩, h1, h2⟩ := bind_some_of hf
  obtain ⟨e2, h3, h4⟩ := bind_some_of h2
  cases h4
  refine ⟨C, G, own, ev, rs, e1, R, h1, fun vs G1 own1 H1 l1 R1 ra => ?_⟩
  obtain ⟨own2, R2⟩ := R1.storeAll ra h3
  have lv : vs.length = 2 := ra.length.trans (storeL_len h3)
  match vs, lv, R2 with
  | [v, w], _, R2 => exact ⟨v, w, rfl, k _ G1 own2 H1 l1 R2⟩
theorem sd_par3 {i j l : Nat} {x y z : Str} {a b c : Expr} {B : FR} {px py pz pt pos : Pos} {kt k2 pt2} (hc : X.calm = true) (hN : X.N.Nodup) (hi : X.N[i]? = some x) (hj : X.N[j]? = some y) (hl : X.N[l]? = some z) (hij : i ≠ j) (hil : i ≠ l) (hjl : j ≠ l)
    (hx : X.env.scope.names.lookup x = some .local) (hy : X.env.scope.names.lookup y = some .local) (hz : X.env.scope.names.lookup z = some .local) (ha : PA X [a, b, c] (tR X.K B))
    (hw : swappedStores [.Tuple [.Name x px, .Name y py, .Name z pz] kt pt] (.Tuple [a, b, c] k2 pt2) X.env = pure (some [x, y, z]))
    (hs : swapsWithSole [.Tuple [.Name x px, .Name y py, .Name z pz] kt pt] (.Tuple [a, b, c] k2 pt2) pos.line X.env = pure false := by rfl) : SD X (.Assign [.Tuple [.Name x px, .Name y py, .Name z pz] kt pt] (.Tuple [a, b, c] k2 pt2) pos) (sPar [i, j, l] B) := by
  refine psImp (ps_par3 hc hN hi hj hl hij hil hjl hx hy hz ha hw hs) fun D σ H w => ?_
  obtain ⟨C, G, own, ev, fl, e', R, hf, k⟩ := w
  obtain ⟨⟨rs, e1⟩, h1, h2⟩ := bind_some_of hf
  obtain ⟨e2, h3, h4⟩ := bind_some_of h2
  cases h4
  refine ⟨C, G, own, ev, rs, e1, R, h1, fun vs G1 own1 H1 l1 R1 ra => ?_⟩
  obtain ⟨own2, R2⟩ := R1.storeAll ra h3
  have lv : vs.length = 3 := ra.length.trans (storeL_len h3)
  match vs, lv, R2 with
  | [u, v, w], _, R2 => exact ⟨u, v, w, rfl, k _ G1 own2 H1 l1 R2⟩
/-- names only, from the left -/
def gNames : List Nat → TGs
  | [] => gNil
  | i :: is => gCons (gName i) (gNames is)
theorem gNames_set {is : List Nat} {vs : List V} {σ : L2.St} {H : Hp} {Q : L2.St → Hp → Prop} (hl : vs.length = is.length) (h : Q (setL σ is vs) H) : gNames is vs σ H Q := by
  induction is generalizing vs σ with
  | nil => cases vs with
    | nil => exact ⟨rfl, h⟩
    | cons _ _ => cases hl
  | cons i is ih => cases vs with
    | nil => cases hl
    | cons v vs => exact ⟨v, vs, rfl, ih (by simpa using hl) h⟩
theorem gs_nil : PGs X [] (gNames []) := pgs_nil
theorem gs_cons {i : Nat} {is : List Nat} {x : Str} {p : Pos} {es : List Expr} (hN : X.N.Nodup) (hi : X.N[i]? = some x) (hx : Loc X.env.scope x) (h : PGs X es (gNames is)) (hf : X.fn x = true ∨ X.env.scope.names.lookup x = some .local := by first | exact .inl rfl | exact .inr rfl | assumption)
    (hs : (assignEach (.Name x p :: es) X.env).map (·.2) = assign (.Name x p) X.env :: (assignEach es X.env).map (·.2) := by rfl) : PGs X (.Name x p :: es) (gNames (i :: is)) := pgs_cons (pg_name hN hi hx hf) h hs
/-- where the names are not all plain locals: the pair is made, and taken apart -/
theorem sd_parG {is : List Nat} {ts es : List Expr} {B : FR} {kt k2} {pt pt2 pos : Pos} (hc : X.calm = true) (hg : PGs X ts (gNames is)) (ha : PA X es (tR X.K B)) (hz : small is.length = true)
    (hn : (assignEach ts X.env).length = is.length := by rfl) (hst : (assignEach ts X.env).findIdx? (·.1) = none := by rfl)
    (hs : swapsWithSole [.Tuple ts kt pt] (.Tuple es k2 pt2) pos.line X.env = pure false := by rfl) (hw : swappedStores [.Tuple ts kt pt] (.Tuple es k2 pt2) X.env = pure none := by rfl)
    (h1 : (assignEach [.Tuple ts kt pt] X.env).map (·.2) = [assign (.Tuple ts kt pt) X.env] := by rfl) : SD X (.Assign [.Tuple ts kt pt] (.Tuple es k2 pt2) pos) (sPar is B) := by
  refine psImp (ps_asg (pe_tup ha) (pg_tup hc hg hn hst) hs hw h1) fun D σ H w => ?_
  obtain ⟨C, G, own, ev, fl, e', R, hf, k⟩ := w
  obtain ⟨⟨rs, e1⟩, h2, h3⟩ := bind_some_of hf
  obtain ⟨e2, h4, h5⟩ := bind_some_of h3
  cases h5
  refine ⟨C, G, own, ev, rs, e1, R, h2, fun vs G1 own1 H1 l1 R1 ra => ?_⟩
  have lv : vs.length = is.length := ra.length.trans (storeL_len h4)
  refine ⟨by rw [lv]; exact line_of hz, fun p hp => ⟨p, vs, rfl, .of upd_same, lv, gNames_set lv ?_⟩⟩
  obtain ⟨own2, R2⟩ := R1.storeAll ra h4
  exact k _ G1 own2 _ l1 (R2.alloc hp)
end
end EL
/-! EL9: [::-1], list(range(..)), dicts: new, in, put, get, update, comprehensions. -/
namespace EL
open PySem PySem.Spec PyProof.Rows L2
variable [KC]

/-! ### [::-1] -/
section
variable {prog : Program} {w : World} {A : Around} {E : Value → Shared → Prop} {s : Shared}
theorem applied_back {sl : Addr} {va vb vc : Value} {n : Nat} {Q : Int × Int × Nat → Shared → Prop} (hs : s.heap.IsSliceOf sl va vb vc) (pa : IsPart va none) (pb : IsPart vb none) (pc : IsPart vc (some (-1)))
    (h : Q ((n : Int) - 1, -1, n) s) : wpAny (model prog w) A (Builtin.Slice.sliceApplied (.ref sl) (pure (n : Int))) Q E s := by
  obtain ⟨os, hos, hcs, hds⟩ := id hs
  unfold Builtin.Slice.sliceApplied Builtin.Slice.sliceFields
  refine wpAny_bind (wpAny_bind (wpAny_field hos hds (x := va) rfl (wpAny_bind (wpAny_field hos hds (x := vb) rfl (wpAny_bind (wpAny_field hos hds (x := vc) rfl (wpAny_pure ?_)))))))
  refine wpAny_bind (HT.slicePart_ pc ?_)
  show wpAny _ _ (if ((-1 : Int) == 0) = true then _ else _) _ _ s
  rw [if_neg (by decide)]
  refine wpAny_bind (HT.slicePart_ pa (wpAny_bind (HT.slicePart_ pb (wpAny_bind (wpAny_pure ?_)))))
  have e1 : Builtin.Slice.sliceAdjust none none (-1) (n : Int) = ((n : Int) - 1, -1) := rfl
  have e2 : Builtin.Slice.slicePlaces ((n : Int) - 1) (-1) (-1) = n := by
    unfold Builtin.Slice.slicePlaces
    rw [if_neg (by decide)]
    by_cases z : (n : Int) - 1 > -1
    · rw [if_pos z, show -(-1 : Int) = 1 from rfl, Int.ediv_one]; omega
    · rw [if_neg z]; show 0 = n; omega
  show wpAny _ _ (match Builtin.Slice.sliceAdjust none none (-1) (n : Int) with | (a, b) => pure (a, (-1 : Int), Builtin.Slice.slicePlaces a b (-1))) _ _ s
  rw [e1]
  show wpAny _ _ (pure ((n : Int) - 1, (-1 : Int), Builtin.Slice.slicePlaces ((n : Int) - 1) (-1) (-1))) _ _ s
  rw [e2]
  exact wpAny_pure h
theorem pick_back (xs : Array Value) : ((List.range xs.size).filterMap fun (m : Nat) => xs[(((xs.size : Int) - 1) + (m : Int) * (-1)).toNat]?).toArray = xs.toList.reverse.toArray := by
  obtain ⟨l⟩ := xs
  congr 1
  apply List.ext_getElem?
  have hf : ∀ m, m ∈ List.range l.length → (fun (m : Nat) => (⟨l⟩ : Array Value)[((((⟨l⟩ : Array Value).size : Int) - 1) + (m : Int) * (-1)).toNat]?) m = some (l.reverse[m]?.getD .none) := by
    intro m hm
    have hm' : m < l.length := List.mem_range.mp hm
    have e : ((((⟨l⟩ : Array Value).size : Int) - 1) + (m : Int) * (-1)).toNat = l.length - 1 - m := by
      show ((l.length : Int) - 1 + (m : Int) * (-1)).toNat = _
      omega
    show (⟨l⟩ : Array Value)[((((⟨l⟩ : Array Value).size : Int) - 1) + (m : Int) * (-1)).toNat]? = _
    rw [e, List.getElem?_reverse hm']
    have : l.length - 1 - m < l.length := by omega
    simp [this]
  have e3 : ((List.range l.length).filterMap fun (m : Nat) => (⟨l⟩ : Array Value)[((((⟨l⟩ : Array Value).size : Int) - 1) + (m : Int) * (-1)).toNat]?) = (List.range l.length).map fun m => l.reverse[m]?.getD .none := by
    have key : ∀ r : List Nat, (∀ m ∈ r, m ∈ List.range l.length) → r.filterMap (fun (m : Nat) => (⟨l⟩ : Array Value)[((((⟨l⟩ : Array Value).size : Int) - 1) + (m : Int) * (-1)).toNat]?) = r.map fun m => l.reverse[m]?.getD .none := by
      intro r
      induction r with
      | nil => intro _; rfl
      | cons a r ih =>
        intro h
        refine (List.filterMap_cons_some (f := fun (m : Nat) => (⟨l⟩ : Array Value)[((((⟨l⟩ : Array Value).size : Int) - 1) + (m : Int) * (-1)).toNat]?) (hf a (h a List.mem_cons_self))).trans ?_
        rw [List.map_cons, ih fun m hm => h m (List.mem_cons_of_mem _ hm)]
    exact key _ fun m hm => hm
  intro i
  show ((List.range l.length).filterMap _)[i]? = l.reverse[i]?
  rw [e3]
  by_cases z : i < l.length
  · simp [z]
  · rw [List.getElem?_eq_none (by simp; omega), List.getElem?_eq_none (by simp; omega)]
theorem getItem_tuple_back {t sl : Addr} {items : Array Value} {va vb vc : Value} {Q : Value → Shared → Prop} (ht : IsTup s.heap t items) (hs : s.heap.IsSliceOf sl va vb vc) (pa : IsPart va none) (pb : IsPart vb none) (pc : IsPart vc (some (-1)))
    (h : Q (.ref s.heap.objs.size) { s with heap := s.heap.push { cls := .type "tuple", data := .seq items.toList.reverse.toArray } }) (hsz : items.size ≤ sizeLine) : wpAny (model prog w) A (getItem (.ref t) (.ref sl)) Q E s := by
  have hfit : sizeOk (.seq items.toList.reverse.toArray) := by
    show items.toList.reverse.toArray.size ≤ sizeLine
    rw [List.size_toArray, List.length_reverse, Array.length_toList]; exact hsz
  obtain ⟨os, hos, hcs, hds⟩ := id hs
  have hTy : s.TypeIs (.ref sl) "slice" := ⟨os, hos, hcs⟩
  unfold getItem
  try with_reducible refine wpAny_holding ?_
  first | refine wpAny_bind (wpAny_pure ?_) | skip
  refine wpAny_bind (wpAny_sequenceKey ht.typeIs (by decide) ?_)
  refine wpAny_bind (wpAny_callSpecial?_slot (name := Str.ofString "__getitem__") ht.typeIs PyProof.Rows.slot_tuple_getitem
    (wpAny_call_entry PyProof.Rows.slot_tuple_getitem ht.typeIs entry_tuple_getitem ?_ (args_tuple_getitem _ _)))
  show wpAny _ _ (Builtin.Tuple.tupleItemsOf (.ref t) >>= _) _ _ s
  refine wpAny_bind (tupleItemsOf_ ht ?_)
  refine wpAny_bind (wpAny_typeOf hTy ?_)
  rw [if_pos (by decide)]
  refine wpAny_bind (applied_back (n := items.size) hs pa pb pc ?_)
  have hno : ¬ ((((items.size : Int) - 1) == 0 && (-1 : Int) == 1 && items.size == items.size) = true) := by
    intro q
    rw [Bool.and_eq_true, Bool.and_eq_true] at q
    exact absurd q.1.2 (by decide)
  show wpAny _ _ (if (((items.size : Int) - 1) == 0 && (-1 : Int) == 1 && items.size == items.size) = true then _ else _) _ _ s
  rw [if_neg hno, pick_back]
  first
    | exact wpAny_bind (m := Builtin.Tuple.tupleExact _) (wpAny_newObj_type (wpAny_pure ⟨_, rfl, wpAny_pure h⟩) hfit)
    | exact wpAny_bind (m := Builtin.Tuple.tupleExact _) (wpAny_newObj_type (wpAny_bind (wpAny_pure (wpAny_pure ⟨_, rfl, wpAny_pure h⟩))) hfit)
    | exact wpAny_bind (wpAny_bind (m := Builtin.Tuple.tupleExact _) (wpAny_newObj_type (wpAny_pure (wpAny_pure ⟨_, rfl, wpAny_pure h⟩)) hfit))
    | exact wpAny_bind (wpAny_bind (m := Builtin.Tuple.tupleExact _) (wpAny_newObj_type (wpAny_pure ⟨_, rfl, wpAny_pure h⟩) hfit))
end
def tRev (K : PySem.W.Frag) (te : TE) : TE := fun σ H Q => te σ H fun x H1 => (∃ a xs, x = .ref a ∧ SqL K H1 a xs ∧ ∀ p, H1 p = none → Q (.ref p) (upd H1 p (.lst xs.reverse))) ∨
  (∃ a xs, x = .ref a ∧ SqT K H1 a xs ∧ ∀ p, H1 p = none → Q (.ref p) (upd H1 p (.tup xs.reverse)))
section
variable {X : Cx}
theorem pe_rev {e : Expr} {te : TE} {k : Nat} {q1 q2 q3 pos : Pos} (he : PE X e te) : PE X (.Subscript e (.Slice none none (some (.UnaryOp .USub (.Constant (.int 1) k q1) q2)) q3) pos) (tRev X.K te) := by
  refine ⟨fun pins s σ H Q I h => ?_⟩
  refine Subscript_ (thn (he.run pins s σ H _ I h) fun v s1 ⟨x, H1, I1, r1, qq⟩ => ?_)
  have hback : PO X (some (.UnaryOp .USub (.Constant (.int 1) k q1) q2)) (tPart (tUn (rU fun i => .int (-i)) (tC (.int 1)))) := po_some (pe_un un_neg pe_int)
  refine wpAny_Slice (thn (po_none.run pins s1 σ H1 (fun o H2 => o = none ∧ H2 = H1) I1 ⟨rfl, rfl⟩) fun va s2 ⟨l, H2, I2, pl, el, e2⟩ => ?_)
  subst el e2
  refine thn (po_none.run pins s2 σ H2 (fun o H3 => o = none ∧ H3 = H2) I2 ⟨rfl, rfl⟩) fun vb s3 ⟨u, H3, I3, pu, eu, e3⟩ => ?_
  subst eu e3
  refine thn (hback.run pins s3 σ H3 (fun o H4 => o = some (-1) ∧ H4 = H3) I3 ⟨1, rfl, -1, rfl, rfl, rfl⟩) fun vc s4 ⟨o, H4, I4, ps, eo, e4⟩ => ?_
  subst eo e4
  have I5 : Inv X pins σ H4 { s4 with heap := s4.heap.push { cls := .type "slice", data := .fields #[va, vb, vc] } } := I4.kept (t' := s4.toks) fun b ob q => Heap.get?_push_of_some _ q
  rcases qq with ⟨a, xs, ex, hx, q⟩ | ⟨a, xs, ex, hx, q⟩
  · subst ex
    cases r1
    obtain ⟨its, r, ht, hz⟩ := I5.list hx
    have hlen := r.length
    show wpAny (model X.prog X.w) X.A (subscriptTail e (.Slice none none (some (.UnaryOp .USub (.Constant (.int 1) k q1) q2)) q3) (.ref a) (.ref s4.heap.objs.size)) (EP X pins σ Q) X.xe { s4 with heap := s4.heap.push { cls := .type "slice", data := .fields #[va, vb, vc] } }
    refine tail_any (ops := [.ref a, .ref s4.heap.objs.size]) ht.isList.typeIs (PySem.slot_list_getitem.lookup) ?_ (by with_unfolding_all rfl)
    refine wpAny_getItem_list_slice ht.isList (Heap.IsSliceOf.new _ va vb vc) pl pu ps (by decide) ?_ (by rw [List.size_toArray]; omega)
    rw [PySem.W.krv_pick]
    refine ⟨.ref _, _, I5.laid (t' := s4.toks) (o := .lst xs.reverse) (fun b ob q => Heap.get?_push_of_some _ q) (Nat.le_refl _) ?_, rfl, q _ (I5.hok.fresh (Nat.le_refl _))⟩
    exact ⟨by rw [List.length_reverse]; exact hz, its.reverse, 0, r.reverse, Heap.get?_push_size _ rfl⟩
  · subst ex
    cases r1
    obtain ⟨its, r, ht, hz⟩ := I5.tuple hx
    have hlen := r.length
    show wpAny (model X.prog X.w) X.A (subscriptTail e (.Slice none none (some (.UnaryOp .USub (.Constant (.int 1) k q1) q2)) q3) (.ref a) (.ref s4.heap.objs.size)) (EP X pins σ Q) X.xe { s4 with heap := s4.heap.push { cls := .type "slice", data := .fields #[va, vb, vc] } }
    refine tail_any (ops := [.ref a, .ref s4.heap.objs.size]) ht.typeIs (PyProof.Rows.slot_tuple_getitem.lookup) ?_ (by with_unfolding_all rfl)
    refine getItem_tuple_back ht (Heap.IsSliceOf.new _ va vb vc) pl pu ps ?_ (by rw [List.size_toArray]; omega)
    refine ⟨.ref _, _, I5.laid (t' := s4.toks) (o := .tup xs.reverse) (fun b ob q => Heap.get?_push_of_some _ q) (Nat.le_refl _) ?_, rfl, q _ (I5.hok.fresh (Nat.le_refl _))⟩
    refine (show ObjOk X.prog X.w _ _ _ (.tup xs.reverse) from ⟨by rw [List.length_reverse]; exact hz, its.reverse, r.reverse, ?_⟩)
    exact IsTup.new _ _
def gRev : D → Option Rs
  | .list ds => some (.fl ds.reverse)
  | .tuple ds => some (.val (.tuple ds.reverse))
  | _ => none
theorem ed_rev {e : Expr} {A : FO} {k : Nat} {q1 q2 q3 pos : Pos} (he : OE X e A) : ED X (.Subscript e (.Slice none none (some (.UnaryOp .USub (.Constant (.int 1) k q1) q2)) q3) pos) (eUn gRev A) := by
  refine peImp (pe_rev he) fun σ H Q w => ?_
  obtain ⟨C, G, own, ev, r, e', R, hf, k⟩ := w
  obtain ⟨⟨t1, e1⟩, h1, h2⟩ := bind_some_of hf
  obtain ⟨x, h5, h6⟩ := bind_some_of h2
  obtain ⟨r', h9, hx⟩ := bind_some_of h6
  cases hx
  refine ⟨C, G, own, ev, t1, e1, R, h1, fun v G1 own1 H1 l1 R1 g1 => ?_⟩
  have rr := g1 _ _ _ _ _ Le.rfl' R1 h5
  have fin : ∀ z H', Grow X.K G1 H1 z r H' → Q z H' := fun z H3 gr => by
    obtain ⟨G3, l3, R3, ok⟩ := R1.grow gr
    exact k z G3 own1 H3 (l1.tr l3) R3 ok
  unfold gRev at h9
  split at h9
  · cases h9
    obtain ⟨p, vs, rfl, y1, y2⟩ := rr.list R1.sub
    exact .inl ⟨p, vs, rfl, .of y1, fun l hl => fin _ _ (.lst hl y2.reverse)⟩
  · cases h9
    obtain ⟨p, vs, rfl, y1, y2⟩ := rr.tup R1.sub
    exact .inr ⟨p, vs, rfl, y1, fun l hl => fin _ _ (.tup hl y2.reverse)⟩
  · cases h9
end

/-! ### list(range(..)), tuple(range(..)) -/
def rgOk (a b : Int) : Bool := inW a && inW b && small (b - a).toNat
theorem rgOk_of {a b : Int} (h : rgOk a b = true) : RgOk a b := by
  unfold rgOk at h
  rw [Bool.and_eq_true, Bool.and_eq_true] at h
  obtain ⟨⟨h1, h2⟩, h3⟩ := h
  obtain ⟨b1, b2⟩ := unhide h1
  obtain ⟨b3, b4⟩ := unhide h2
  have h3 : (b - a).toNat ≤ 16777216 := unhide h3
  exact ⟨b1, b2, b3, b4, h3⟩
theorem rg_rp {K : PySem.W.Frag} {G : Hp} (a b : Int) : RpA K G (rgV a b) (rgL a (b - a).toNat) := by
  unfold rgV rgL
  generalize List.range (b - a).toNat = l
  induction l with
  | nil => exact .nil
  | cons x l ih => exact .cons (.int _) ih
def eRg (L : Bool) (A : FO) : FE := fun e => (A e).bind fun p => (p.1 p.2).bind fun d => match d with
  | .int n => if rgOk 0 n = true then some (if L = true then .fl (rgL 0 n.toNat) else .val (.tuple (rgL 0 n.toNat)), p.2) else none
  | _ => none
def eRg2 (L : Bool) (A B : FO) : FE := fun e => (A e).bind fun p => (B p.2).bind fun q => (p.1 q.2).bind fun x => (q.1 q.2).bind fun y => match x, y with
  | .int m, .int n => if rgOk m n = true then some (if L = true then .fl (rgL m (n - m).toNat) else .val (.tuple (rgL m (n - m).toNat)), q.2) else none
  | _, _ => none
section
variable {X : Cx} {a b : Expr} {p p2 pos pos2 : Pos} {A B : FO}
theorem ed_listRg (hc : X.calm = true) (hg : Gl X "list") (hm : X.mg "list" = none) (hg2 : Gl X "range") (hm2 : X.mg "range" = none) (ha : OE X a A)
    (na : starEach [a] X.env = (false, eval a X.env) :: starEach [] X.env := by rfl) (nb : starEach [.Call (.Name "range" p2) [a] [] pos2] X.env = (false, eval (.Call (.Name "range" p2) [a] [] pos2) X.env) :: starEach [] X.env := by rfl) :
    ED X (.Call (.Name "list" p) [.Call (.Name "range" p2) [a] [] pos2] [] pos) (eRg true A) := by
  refine peImp (pe_listRg hc hg hm (prg_1 hg2 hm2 ha na) nb) fun σ H Q w => ?_
  obtain ⟨C, G, own, ev, r, e', R, hf, k⟩ := w
  obtain ⟨⟨t1, e1⟩, h1, h2⟩ := bind_some_of hf
  obtain ⟨x, h5, h6⟩ := bind_some_of h2
  split at h6
  · rename_i n
    split at h6
    · rename_i hz
      cases h6
      refine ⟨C, G, own, ev, t1, e1, R, h1, fun v G1 own1 H1 l1 R1 g1 => ⟨n, (g1 _ _ _ _ _ Le.rfl' R1 h5).int, rgOk_of hz, fun q hq => ?_⟩⟩
      obtain ⟨G3, l3, R3, ok⟩ := R1.grow (.lst hq (rg_rp 0 n))
      rw [show (n - 0 : Int) = n by omega] at ok
      exact k _ G3 own1 _ (l1.tr l3) R3 ok
    · cases h6
  · cases h6
theorem ed_tupRg (hc : X.calm = true) (hg : Gl X "tuple") (hm : X.mg "tuple" = none) (hg2 : Gl X "range") (hm2 : X.mg "range" = none) (ha : OE X a A)
    (na : starEach [a] X.env = (false, eval a X.env) :: starEach [] X.env := by rfl) (nb : starEach [.Call (.Name "range" p2) [a] [] pos2] X.env = (false, eval (.Call (.Name "range" p2) [a] [] pos2) X.env) :: starEach [] X.env := by rfl) :
    ED X (.Call (.Name "tuple" p) [.Call (.Name "range" p2) [a] [] pos2] [] pos) (eRg false A) := by
  refine peImp (pe_tupRg hc hg hm (prg_1 hg2 hm2 ha na) nb) fun σ H Q w => ?_
  obtain ⟨C, G, own, ev, r, e', R, hf, k⟩ := w
  obtain ⟨⟨t1, e1⟩, h1, h2⟩ := bind_some_of hf
  obtain ⟨x, h5, h6⟩ := bind_some_of h2
  split at h6
  · rename_i n
    split at h6
    · rename_i hz
      cases h6
      refine ⟨C, G, own, ev, t1, e1, R, h1, fun v G1 own1 H1 l1 R1 g1 => ⟨n, (g1 _ _ _ _ _ Le.rfl' R1 h5).int, rgOk_of hz, fun q hq => ?_⟩⟩
      obtain ⟨G3, l3, R3, ok⟩ := R1.grow (.tup hq (rg_rp 0 n))
      rw [show (n - 0 : Int) = n by omega] at ok
      exact k _ G3 own1 _ (l1.tr l3) R3 ok
    · cases h6
  · cases h6
end

/-! ### dicts of one's own -/
def eDNew (b : Bool) : FE := fun e => some (.fd b [], e)
def dctAt (i : Nat) (e : EE) : Option (Bool × List (D × D)) := match e.r[i]? with
  | some (some (.od b kvs)) => some (b, kvs)
  | _ => none
theorem dctAt_some {i : Nat} {e : EE} {b : Bool} {kvs : List (D × D)} (h : dctAt i e = some (b, kvs)) : e.r[i]? = some (some (.od b kvs)) := by
  unfold dctAt at h
  split at h
  · rename_i q; cases h; exact q
  · cases h
def keyB (b : Bool) (d : D) : Bool := okKey d && (tupKey d == b)
def eDIn (neg : Bool) (F : FE) (i : Nat) : FE := fun e => (F e).bind fun p => (dctAt i p.2).bind fun q => if keyB q.1 p.1.d = true then some (.val (.bool (xor neg (dLook q.2 p.1.d).isSome)), p.2) else none
def eDGet (i : Nat) (F : FE) : FE := fun e => (dctAt i e).bind fun _ => (F e).bind fun p => (dctAt i p.2).bind fun q => if keyB q.1 p.1.d = true then (dLook q.2 p.1.d).bind fun d => some (.val d, p.2) else none
def sDPut (i : Nat) (F V : FE) : FS := fun e => (V e).bind fun q => (dctAt i q.2).bind fun _ => (F ⟨q.2.r, q.2.S⟩).bind fun p => (dctAt i p.2).bind fun z => if (keyB z.1 p.1.d && hide (z.2.length < 16777216)) = true then some (.nx, p.2.put i (some (.od z.1 (dPut z.2 p.1.d q.1.d)))) else none
section
variable {K : PySem.W.Frag} {C : Cn} {G H : Hp} {own : Nat → Option Addr} {e : EE} {σ : L2.St}
theorem Rep.dct (R : Rep K C G own e σ H) {i : Nat} {b : Bool} {kvs : List (D × D)} (h : e.r[i]? = some (some (.od b kvs))) :
    ∃ a, σ[i]? = some (some (.ref a)) ∧ own i = some a ∧ OdOk K G H a b kvs ∧ ∀ u kvs', OdOk K G (upd H a u) a b kvs' → Rep K C G own (e.put i (some (.od b kvs'))) σ (upd H a u) := by
  obtain ⟨v, h1, a, rfl, h2, h3⟩ := R.slot i _ h
  exact ⟨a, h1, h2, h3, fun u kvs' ok => R.write h2 (ltOf h) h1 ⟨a, rfl, h2, ok⟩⟩
theorem keyB_of {b : Bool} {d : D} (h : keyB b d = true) : okKey d = true ∧ tupKey d = b := by
  unfold keyB at h
  rw [Bool.and_eq_true] at h
  exact ⟨h.1, by simpa using h.2⟩
theorem DLk.some {a : Addr} {y : V} {o : Option D} (h : DLk K G H a y o) : ∃ r, DGet H a y r ∧ r.isSome = o.isSome ∧ ∀ d, o = .some d → ∃ v, r = .some v ∧ Rp K G v d := by
  obtain ⟨r, h1, h2⟩ := h
  cases o with
  | none => cases r with
    | none => exact ⟨_, h1, rfl, fun d z => by cases z⟩
    | some v => exact h2.elim
  | some d => cases r with
    | none => exact h2.elim
    | some v => exact ⟨_, h1, rfl, fun d' z => by cases z; exact ⟨v, rfl, h2⟩⟩
/-- a put -/
theorem OdOk.put (l : Le G H) {p : Addr} {b : Bool} {kvs : List (D × D)} (h : OdOk K G H p b kvs) (hg : G p = none) {y : V} {k : D} (hk : IsKey K G y k) (hs : tupKey k = b) {v : V} {d : D} (r : Rp K G v d) (z : kvs.length < 16777216) :
    ∃ u, DPut H p y v (upd H p u) ∧ OdOk K G (upd H p u) p b (dPut kvs k d) := by
  rcases h with ⟨rfl, l', ds, h1, h2, rfl⟩ | ⟨rfl, l', ds, h1, h2, rfl⟩
  · have ln : l'.length = ds.length := by have := h2.length; simpa using this
    have z' : l'.length < sizeLine := by rw [sizeLine_eq]; simp [ln] at z; omega
    cases hk with
    | @k k =>
      obtain ⟨ds', q1, q2⟩ := put_ok eqv_kd h2 k r
      exact ⟨_, DPut.k h1 z', .inl ⟨rfl, putK l' k v, ds', upd_same, q1, q2⟩⟩
    | t h => simp [tupKey, tkd] at hs
  · have ln : l'.length = ds.length := by have := h2.length; simpa using this
    have z' : l'.length < sizeLine := by rw [sizeLine_eq]; simp [ln] at z; omega
    cases hk with
    | @k k => rcases k with k | k <;> simp [tupKey, kd] at hs
    | @t b ks h =>
      obtain ⟨ds', q1, q2⟩ := put_ok eqv_tkd h2 ks r
      exact ⟨_, DPut.t h1 (l _ _ h) z', .inr ⟨rfl, putK l' ks v, ds', upd_same, q1, q2⟩⟩
end
section
variable {X : Cx} {o k value : Expr} {pos pos' : Pos}
theorem ed_dnewK : ED X (.Dict [] [] pos) (eDNew false) := by
  refine peImp pe_dnewK fun σ H Q w => ?_
  obtain ⟨C, G, own, ev, r, e', R, hf, k⟩ := w
  cases hf
  intro p hp
  obtain ⟨G3, l3, R3, ok⟩ := R.grow (.dk (l := []) (ds := []) hp .nil)
  exact k _ G3 own _ l3 R3 ok
theorem ed_dnewT : ED X (.Dict [] [] pos) (eDNew true) := by
  refine peImp pe_dnewT fun σ H Q w => ?_
  obtain ⟨C, G, own, ev, r, e', R, hf, k⟩ := w
  cases hf
  intro p hp
  obtain ⟨G3, l3, R3, ok⟩ := R.grow (.dt (l := []) (ds := []) hp .nil)
  exact k _ G3 own _ l3 R3 ok
theorem din_imp {K : PySem.W.Frag} {neg : Bool} {F : FE} {i : Nat} {σ : L2.St} {H : Hp} {Q : VK} (w : tE K (eDIn neg F i) σ H Q) :
    tE K F σ H fun y H1 => tVar i σ H1 fun x H2 => ∃ a o, x = .ref a ∧ DGet H2 a y o ∧ Q (.bl (xor neg o.isSome)) H2 := by
  obtain ⟨C, G, own, ev, r, e', R, hf, k⟩ := w
  obtain ⟨⟨r1, e1⟩, h1, h2⟩ := bind_some_of hf
  obtain ⟨⟨b, kvs⟩, h3, h4⟩ := bind_some_of h2
  dsimp only at h4
  split at h4
  · rename_i hz
    cases h4
    obtain ⟨z1, z2⟩ := keyB_of hz
    refine ⟨C, G, own, ev, r1, _, R, h1, fun y G1 own1 H1 l1 R1 ok => ?_⟩
    obtain ⟨G2, l2, R2, p⟩ := R1.frz ok
    obtain ⟨a, q1, q2, q3, _⟩ := R2.dct (dctAt_some h3)
    obtain ⟨r, y1, y2, _⟩ := (DLk.of R2.sub q3 (p.key z1) z2).some
    exact ⟨_, q1, a, r, rfl, y1, by rw [y2]; exact k _ G2 own1 H1 (l1.tr l2) R2 (Rp.bl _)⟩
  · cases h4
theorem pc_dIn {F : FE} {i : Nat} (hu : X.A.units + 1 < cLine) (hk : ED X k F) (ho : PE X o (tVar i)) : PC X .In k o (tE X.K (eDIn false F i)) :=
  ⟨fun pins s σ H Q I w => (pc_din hu hk ho).run pins s σ H Q I (by
    have z := din_imp w
    simp only [Bool.false_xor] at z
    exact z)⟩
theorem pc_dNin {F : FE} {i : Nat} (hu : X.A.units + 1 < cLine) (hk : ED X k F) (ho : PE X o (tVar i)) : PC X .NotIn k o (tE X.K (eDIn true F i)) :=
  ⟨fun pins s σ H Q I w => (pc_dnotin hu hk ho).run pins s σ H Q I (by
    have z := din_imp w
    simp only [Bool.true_xor] at z
    exact z)⟩
theorem td_dIn {F : FE} {i : Nat} (hu : X.A.units + 1 < cLine) (hk : ED X k F) (ho : PE X o (tVar i)) (hm : behindInMarks .In o = false) : TD X (.Compare k [.In] [o] pos) (tOf (eDIn false F i)) :=
  ptImp (pt_cmp (pc_dIn hu hk ho) hm) fun _ _ _ w => tof_imp w
theorem td_dNin {F : FE} {i : Nat} (hu : X.A.units + 1 < cLine) (hk : ED X k F) (ho : PE X o (tVar i)) (hm : behindInMarks .NotIn o = false) : TD X (.Compare k [.NotIn] [o] pos) (tOf (eDIn true F i)) :=
  ptImp (pt_cmp (pc_dNin hu hk ho) hm) fun _ _ _ w => tof_imp w
theorem ed_dGet {F : FE} {i : Nat} (hu : X.A.units + 1 < cLine) (ho : PE X o (tVar i)) (hk : ED X k F) (hs : NoSl k) : ED X (.Subscript o k pos) (eDGet i F) := by
  refine peImp (pe_dget hu ho hk hs) fun σ H Q w => ?_
  obtain ⟨C, G, own, ev, r, e', R, hf, kk⟩ := w
  obtain ⟨⟨b0, kvs0⟩, h0, hf⟩ := bind_some_of hf
  obtain ⟨⟨r1, e1⟩, h1, h2⟩ := bind_some_of hf
  obtain ⟨⟨b, kvs⟩, h3, h4⟩ := bind_some_of h2
  dsimp only at h4
  split at h4
  · rename_i hz
    obtain ⟨d, h5, h6⟩ := bind_some_of h4
    cases h6
    obtain ⟨z1, z2⟩ := keyB_of hz
    obtain ⟨a0, y0, _⟩ := R.dct (dctAt_some h0)
    refine ⟨_, y0, C, G, own, ev, r1, _, R, h1, fun y G1 own1 H1 l1 R1 ok => ?_⟩
    obtain ⟨G2, l2, R2, p⟩ := R1.frz ok
    obtain ⟨a, q1, q2, q3, _⟩ := R2.dct (dctAt_some h3)
    rw [y0] at q1; cases q1
    obtain ⟨r, y1, y2, y3⟩ := (DLk.of R2.sub q3 (p.key z1) z2).some
    obtain ⟨v, rfl, rv⟩ := y3 d h5
    exact ⟨_, v, rfl, y1, kk _ G2 own1 H1 (l1.tr l2) R2 rv⟩
  · cases h4
theorem sd_dPut {F V : FE} {i : Nat} (hu : X.A.units + 1 < cLine) (ho : PE X o (tVar i)) (hk : ED X k F) (hv : ED X value V) (hs : swapsWith value (some (.Subscript o k pos')) pos.line X.env = pure false := by rfl) :
    SD X (.Assign [.Subscript o k pos'] value pos) (sDPut i F V) := by
  refine psImp (ps_dput hu ho hk hv hs) fun D σ H w => ?_
  obtain ⟨C, G, own, ev, r, e', R, hf, kk⟩ := w
  obtain ⟨⟨rv, e0⟩, g1, g2⟩ := bind_some_of hf
  obtain ⟨⟨b0, kvs0⟩, h0, hf⟩ := bind_some_of g2
  obtain ⟨⟨r1, e1⟩, h1, h2⟩ := bind_some_of hf
  obtain ⟨⟨b, kvs⟩, h3, h4⟩ := bind_some_of h2
  dsimp only at h4
  split at h4
  · rename_i hz
    cases h4
    rw [Bool.and_eq_true] at hz
    obtain ⟨z1, z2⟩ := keyB_of hz.1
    refine ⟨C, G, own, ev, rv, e0, R, g1, fun v Gv ownv Hv lv Rv okv => ?_⟩
    obtain ⟨Gw, lw, Rw, pv⟩ := Rv.frz okv
    obtain ⟨a0, y0, _⟩ := Rw.dct (dctAt_some h0)
    refine ⟨_, y0, C, Gw, ownv, e0, r1, e1, Rw, h1, fun y G1 own1 H1 l1 R1 ok => ?_⟩
    obtain ⟨G2, l2, R2, p⟩ := R1.frz ok
    obtain ⟨a, q1, q2, q3, wr⟩ := R2.dct (dctAt_some h3)
    rw [y0] at q1; cases q1
    obtain ⟨u, d1, d2⟩ := q3.put R2.sub (R2.ofr i _ q2).2 (p.key z1) z2 (pv.mono (l1.tr l2)) (unhide hz.2)
    exact ⟨_, _, rfl, d1, kk _ G2 own1 _ (lv.tr (lw.tr (l1.tr l2))) (wr _ _ d2)⟩
  · cases h4
end

/-! ### d.update(..) -/
def mergeV (l more : List (Key × V)) : List (Key × V) := more.foldl (fun acc q => putK acc q.1 q.2) l
def dMerge (l more : List (D × D)) : List (D × D) := more.foldl (fun acc q => dPut acc q.1 q.2) l
theorem kv_merged {l more : List (Key × V)} {vs ws : List (Key × Value)} (r : KV l vs) (r2 : KV more ws) : KV (mergeV l more) (merged vs ws) := by
  unfold KV at r2
  induction r2 generalizing l vs with
  | nil => exact r
  | @cons p q ps qs h _ ih =>
    have e : p.1 = q.1 := h.1
    have := ih (r.put p.1 h.2)
    rw [e] at this
    show KV (mergeV (putK l p.1 p.2) ps) (merged (stored vs q.1 q.2) qs)
    rw [e]; exact this
theorem putK_le (l : List (Key × V)) (k : Key) (v : V) : (putK l k v).length ≤ l.length + 1 := by unfold putK; split <;> simp
theorem mergeV_le : ∀ (more l : List (Key × V)), (mergeV l more).length ≤ l.length + more.length
  | [], l => Nat.le_refl _
  | q :: more, l => by
    have := mergeV_le more (putK l q.1 q.2)
    have h2 := putK_le l q.1 q.2
    show (mergeV (putK l q.1 q.2) more).length ≤ l.length + (more.length + 1)
    omega
theorem merge_ok {K : PySem.W.Frag} {G : Hp} : ∀ {more l : List (Key × V)} {ds es : List D}, RpA K G (l.map (·.2)) ds → RpA K G (more.map (·.2)) es →
    ∃ ds', RpA K G ((mergeV l more).map (·.2)) ds' ∧ dMerge ((l.map fun q => kd q.1).zip ds) ((more.map fun q => kd q.1).zip es) = ((mergeV l more).map fun q => kd q.1).zip ds'
  | [], l, ds, es, h, h2 => ⟨ds, h, by simp [dMerge, mergeV]⟩
  | q :: more, l, ds, es, h, h2 => by
    cases h2 with
    | @cons _ _ d es' r1 r2 =>
      obtain ⟨ds1, q1, q2⟩ := put_ok eqv_kd h q.1 r1
      obtain ⟨ds2, q3, q4⟩ := merge_ok (more := more) q1 r2
      refine ⟨ds2, q3, ?_⟩
      show dMerge (dPut ((l.map fun q => kd q.1).zip ds) (kd q.1) d) ((more.map fun q => kd q.1).zip es') = _
      rw [q2]; exact q4
def rUpd : V → List V → Hp → VK → Prop := fun x vs H Q => ∃ a b ks ms, x = .ref a ∧ vs = [.ref b] ∧ H a = some (.dK ks) ∧ H b = some (.dK ms) ∧ a ≠ b ∧ ks.length + ms.length ≤ sizeLine ∧ Q .non (upd H a (.dK (mergeV ks ms)))
theorem mt_update {X : Cx} : MtR X "dict.update" rUpd := by
  intro pins s σ H x vs v us Q I rx rv h
  obtain ⟨a, b, ks, ms, rfl, rfl, ha, hb, hab, hz, q⟩ := h
  cases rx
  obtain ⟨u, rfl, ru⟩ := rv.one
  cases ru
  obtain ⟨z1, hd1, ks', rel1, dd1⟩ := dk_of I.hok ha
  obtain ⟨z2, hd2, ms', rel2, dd2⟩ := dk_of I.hok hb
  refine call_meetsIn PySem.F.slot_dict_update dd1.typeIs PySem.F.entry_dict_update (PySem.F.args_dict_update_2 _ _) (meets_dict_update (mixKind X.prog X.w) a b hab hd2)
    ⟨ks', ms', dd1, dd2, by rw [← rel1.length, ← rel2.length]; exact hz, fun h' dd' _ hs => ?_⟩
  have he : ∃ q, h'.get? a = some q := let ⟨q, _, _, hq, _⟩ := dd'; ⟨q, hq⟩
  refine ⟨.non, _, d_write (t' := s.toks) I (by rw [ha]; exact True.intro) hs he (dk_new (Nat.le_trans (mergeV_le ms ks) hz) hd1 (kv_merged rel1 rel2) dd'), rfl, q⟩
def mUpdate (i : Nat) (F : FE) : FE := fun e => (dctAt i e).bind fun _ => (F e).bind fun p => (dctAt i p.2).bind fun z => match z.1, p.1 with
  | false, .fd false more => if small (z.2.length + more.length) = true then some (.val .none, p.2.put i (some (.od false (dMerge z.2 more)))) else none
  | _, _ => none
section
variable {X : Cx} {o e : Expr} {apos cpos : Pos}
theorem OdOk.k {K : PySem.W.Frag} {G H : Hp} {p : Addr} {kvs : List (D × D)} (h : OdOk K G H p false kvs) : ∃ l ds, H p = some (.dK l) ∧ RpA K G (l.map (·.2)) ds ∧ kvs = (l.map fun q => kd q.1).zip ds ∧ l.length = kvs.length := by
  rcases h with ⟨_, l, ds, h1, h2, rfl⟩ | ⟨h, _⟩
  · have ln : l.length = ds.length := by have := h2.length; simpa using this
    exact ⟨l, ds, h1, h2, rfl, by simp [ln]⟩
  · cases h
theorem ed_update {i : Nat} {F : FE} (ho : PE X o (tVar i)) (he : ED X e F)
    (hbase : attributeBase o "update" X.env (eval o X.env) = eval o X.env := by rfl)
    (hfew : ((backTo cpos (starEach (e :: []) X.env)).all (fun x => !x.1) && (backToKw cpos (keywordEach [] X.env)).all (fun x => x.1.isSome) && decide ((e :: []).length + ([] : List Keyword).length + (if ([] : List Keyword).isEmpty then 0 else 1) < 30)) = true := by rfl)
    (hline : (apos.endLine == cpos.line) = true := by rfl) (hs : starEach (e :: []) X.env = (false, eval e X.env) :: starEach [] X.env := by rfl) : ED X (.Call (.Attribute o "update" apos) [e] [] cpos) (mUpdate i F) := by
  refine peImp (pe_bm PySem.F.plainAttrs_dict PySem.F.slot_dict_update PySem.F.type_dict_update mt_update ho (pa_cons he pa_nil hs) hbase hfew hline hs rfl) fun σ H Q w => ?_
  obtain ⟨C, G, own, ev, r, e', R, hf, k⟩ := w
  obtain ⟨⟨b0, ks0⟩, q1, q2⟩ := bind_some_of hf
  obtain ⟨⟨r1, e1⟩, q3, q4⟩ := bind_some_of q2
  obtain ⟨⟨b, kvs⟩, q5, q6⟩ := bind_some_of q4
  dsimp only at q6
  split at q6
  · rename_i more
    split at q6
    · rename_i hz
      cases q6
      obtain ⟨a, y1, y2, y3, _⟩ := R.dct (dctAt_some q1)
      have ty : tyV X.K "dict" (.ref a) H := by
        rcases y3 with ⟨_, l, _, h, _⟩ | ⟨_, l, _, h, _⟩
        · exact .inr (.inr (.inl ⟨rfl, .inl ⟨l, h⟩⟩))
        · exact .inr (.inr (.inl ⟨rfl, .inr ⟨l, h⟩⟩))
      refine ⟨_, y1, ty, C, G, own, ev, _, e1, R, q3, fun y G1 own1 H1 l1 R1 ok => ?_⟩
      obtain ⟨p, rfl, o1, o2, o3, o4⟩ := ok
      obtain ⟨a', g1, g2, g3, wr⟩ := R1.dct (dctAt_some q5)
      rw [y1] at g1; cases g1
      obtain ⟨l, ds, x1, x2, rfl, x3⟩ := g3.k
      obtain ⟨m, es, w1, w2, rfl, w3⟩ := o1.k
      have sz : l.length + m.length ≤ sizeLine := by rw [x3, w3]; exact line_of hz
      refine ⟨a, p, l, m, rfl, rfl, x1, w1, fun z => o4 i (by rw [← z]; exact g2), sz, ?_⟩
      obtain ⟨ds', m1, m2⟩ := merge_ok x2 w2
      refine k _ G1 own1 _ l1 (wr _ _ (.inl ⟨rfl, mergeV l m, ds', upd_same, m1, m2⟩)) Rp.non
    · cases q6
  · cases q6
end

/-! ### dict comprehensions: keys ints, texts -/
def dcompL (vs : List Nat) (g : FG) (t : FT) (Fk Fv : FE) : List D → List (D × D) → EE → Option (List (D × D) × EE)
  | [], acc, e => some (acc, e)
  | d :: ds, acc, e => (g d e).bind fun e1 => (t e1).bind fun p => if p.1 = true then (Fk p.2).bind fun q => match q.1 with
      | .val k => (keyOf k).bind fun _ => (Fv q.2).bind fun z => if hide (acc.length < 16777216) = true then dcompL vs g t Fk Fv ds (dPut acc k z.1.d) (wipeE z.2 vs) else none
      | _ => none
    else dcompL vs g t Fk Fv ds acc (wipeE p.2 vs)
def eDComp (vs : List Nat) (I : FA) (g : FG) (t : FT) (Fk Fv : FE) : FE := fun e => (I e).bind fun p => (dcompL vs g t Fk Fv p.1 [] (wipeE p.2 vs)).bind fun z => some (.fd false z.1, restE p.2 z.2 vs)
section
variable {X : Cx}
theorem dc_imp {K : PySem.W.Frag} {vs : List Nat} {I : FA} {g : FG} {t : FT} {Fk Fv : FE} {σ : L2.St} {H : Hp} {Q : VK} (w : tE K (eDComp vs I g t Fk Fv) σ H Q) : tDc (tI K I) (tGv K g vs) (tTst K t) (tE K Fk) (tE K Fv) vs σ H Q := by
  obtain ⟨C, G, own, ev, r, e', R, hf, k⟩ := w
  obtain ⟨⟨ds, e1⟩, q1, q2⟩ := bind_some_of hf
  obtain ⟨⟨out, e2⟩, q3, q4⟩ := bind_some_of q2
  cases q4
  refine ⟨C, G, own, ev, ds, e1, R, q1, fun J G1 own1 H1 l1 R1 it A hA => ?_⟩
  obtain ⟨ownw, Rw, kw⟩ := R1.wipeAll vs
  refine ⟨fun i m H2 => m = ds.length - i ∧ i ≤ ds.length ∧ ∃ G2 own2 e3 acc, Le G1 G2 ∧ Rep K C G2 own2 e3 (wipe σ vs) H2 ∧ RsOk K C G2 own2 H2 (.ref A) (.fd false acc) ∧ dcompL vs g t Fk Fv (ds.drop i) acc e3 = some (out, e2),
    ⟨ds.length, by simp, Nat.zero_le _, G1, ownw, wipeE e1 vs, [], Le.rfl', Rw.alloc hA, ⟨A, rfl, .inl ⟨rfl, [], [], upd_same, .nil, rfl⟩, R1.gnone hA, R1.h0none hA, Rw.notOwn hA⟩, by simpa using q3⟩, ?_⟩
  rintro i m H2 ⟨rfl, hi, G2, own2, e3, acc, l2, R2, ok2, hq⟩
  by_cases hlt : i < ds.length
  · obtain ⟨d, hd⟩ : ∃ d, ds[i]? = some d := ⟨ds[i], by simp [hlt]⟩
    have hdr : ds.drop i = d :: ds.drop (i + 1) := by
      rw [List.drop_eq_getElem_cons hlt]
      have : ds[i] = d := by rw [List.getElem?_eq_getElem hlt] at hd; exact Option.some.inj hd
      rw [this]
    rw [hdr] at hq
    obtain ⟨e4, y1, y2⟩ := bind_some_of hq
    obtain ⟨⟨b, e5⟩, y3, y4⟩ := bind_some_of y2
    obtain ⟨C', _, _, _, R2', back⟩ := R2.aside ok2
    obtain ⟨go, yl⟩ := it.go G2 H2 i d l2 R2.sub hd
    refine .inr ⟨go, fun H' => ∃ G3 own3 e3' acc', Le G1 G3 ∧ Rep K C G3 own3 e3' (wipe σ vs) H' ∧ RsOk K C G3 own3 H' (.ref A) (.fd false acc') ∧ dcompL vs g t Fk Fv (ds.drop (i + 1)) acc' e3' = some (out, e2),
      fun H' ⟨G3, own3, e3', acc', z1, z2, z3, z4⟩ => ⟨ds.length - (i + 1), by omega, rfl, hlt, G3, own3, e3', acc', z1, z2, z3, z4⟩, fun x H3 hy => ?_⟩
    obtain ⟨G3, l3, R3, ok⟩ := R2'.grow (yl x H3 hy)
    refine ⟨C', G3, own2, e3, d, e4, R3, ok, y1, fun σ4 G4 own4 H4 w4 l4 R4 => ⟨by rw [w4]; exact wipe_idem σ vs, C', G4, own4, e4, b, e5, R4, y3, fun G5 own5 H5 l5 R5 => ?_⟩⟩
    have hw : wipe σ4 vs = wipe σ vs := by rw [w4]; exact wipe_idem σ vs
    cases b with
    | false =>
      dsimp only at y4
      rw [if_neg Bool.false_ne_true] at y4
      have lx : Le G2 G5 := l3.tr (l4.tr l5)
      obtain ⟨R5c, ok5⟩ := back G5 own5 e5 σ4 H5 lx R5
      obtain ⟨own6, R6, k6⟩ := R5c.wipeAll vs
      rw [hw] at R6
      refine iteF ⟨G5, own6, wipeE e5 vs, acc, l2.tr lx, R6, ok5.le Le.rfl' fun p u hp hg h0 ho hu => ⟨hu, hg, h0, fun j z => ho j (k6 j p z)⟩, y4⟩
    | true =>
      dsimp only at y4
      rw [if_pos rfl] at y4
      obtain ⟨⟨re, e6⟩, y5, y6⟩ := bind_some_of y4
      dsimp only at y6
      split at y6
      · rename_i kk
        obtain ⟨key, y7, y8⟩ := bind_some_of y6
        obtain ⟨⟨rv, e7⟩, y9, y10⟩ := bind_some_of y8
        dsimp only at y10
        split at y10
        · rename_i hln
          refine iteT ⟨C', G5, own5, e5, _, e6, R5, y5, fun y G6 own6 H6 l6 R6 ok6 => ⟨C', G6, own6, e6, rv, e7, R6, y9, fun z G7 own7 H7 l7 R7 ok7 => ?_⟩⟩
          have ok6 : Rp K G6 y kk := ok6
          have hkk := keyOf_some y7
          subst hkk
          have ek : y = kV key := by
            rcases key with key | key
            · have ok6 : Rp K G6 y (.int key) := ok6; cases ok6; rfl
            · have ok6 : Rp K G6 y (.str key) := ok6; cases ok6; rfl
          subst ek
          obtain ⟨G8, l8, R8, p8⟩ := R7.frz ok7
          have lx : Le G2 G8 := l3.tr (l4.tr (l5.tr (l6.tr (l7.tr l8))))
          obtain ⟨R8c, ok8⟩ := back G8 own7 e7 σ4 H7 lx R8
          obtain ⟨p, hp, h1, h3, h4, h5⟩ := ok8
          cases hp
          obtain ⟨l, es, x1, x2, rfl, x3⟩ := h1.k
          have hln' : l.length < sizeLine := by rw [sizeLine_eq, x3]; exact unhide hln
          refine ⟨l, key, rfl, x1, hln', ?_⟩
          obtain ⟨es', m1, m2⟩ := put_ok eqv_kd x2 key p8
          obtain ⟨own8, R9, k8⟩ := (R8c.poke (o := .dK (putK l key z)) h3 h4 h5).wipeAll vs
          rw [hw] at R9
          exact ⟨G8, own8, wipeE e7 vs, _, l2.tr lx, R9, ⟨A, rfl, .inl ⟨rfl, putK l key z, es', upd_same, m1, m2⟩, h3, h4, fun j q => h5 j (k8 j A q)⟩, y10⟩
        · cases y10
      · cases y6
  · have e : i = ds.length := by omega
    subst e
    rw [List.drop_length] at hq
    cases hq
    obtain ⟨own9, R9, k9⟩ := Rep.backAll R1 l2 vs e2 own2 R2
    exact .inl ⟨it.stop G2 H2 l2 R2.sub, k _ G2 own9 H2 (l1.tr l2) R9 (ok2.le Le.rfl' fun p u hp hg h0 ho hu => ⟨hu, hg, h0, fun j z => ho j (k9 j p z)⟩)⟩
theorem ed_dc {kx vx tg iter : Expr} {ifs : List Expr} {scope : Scope} {own : List (Str × Nat)} {pos : Pos} {I : FA} {g : FG} {t : FT} {Fk Fv : FE} (hc : X.calm = true) (hN : X.N.Nodup) (hi : ID X tg iter I) (ok : BlkOk X.N X.env.scope scope own)
    (hg : ∀ (s : Shared) (H : Hp) (C : Addr) (cl : List (Str × Addr)) (fp : List Addr), GV (X.blk s H scope (compEnvC scope cl C X.env) fp) tg g (own.map (·.2)))
    (ht : ∀ (s : Shared) (H : Hp) (C : Addr) (cl : List (Str × Addr)) (fp : List Addr), PTs (X.blk s H scope (compEnvC scope cl C X.env) fp) ifs (tTst X.K t))
    (hk : ∀ (s : Shared) (H : Hp) (C : Addr) (cl : List (Str × Addr)) (fp : List Addr), ED (X.blk s H scope (compEnvC scope cl C X.env) fp) kx Fk)
    (hv : ∀ (s : Shared) (H : Hp) (C : Addr) (cl : List (Str × Addr)) (fp : List Addr), ED (X.blk s H scope (compEnvC scope cl C X.env) fp) vx Fv)
    (hs : ∀ x, foldedSetIterable iter X.env x = pure x := by intro _; rfl) : ED X (.DictComp kx vx [⟨tg, iter, ifs, 0⟩] scope pos) (eDComp (own.map (·.2)) I g t Fk Fv) :=
  peImp (pe_dc hc hN hi ok hg ht hk hv hs) fun _ _ _ w => dc_imp w
end
end EL
/-! EL10: the law's two ends; what opens the source of draws, what draws. -/
namespace EL
open PySem PySem.Spec PyProof.Rows L2

/-! ### the end: the law's call, guards none -/
theorem lawG_call {P : Program} {w : World} {K : PySem.W.Frag} {mg mb : Str → Option Value} {k : Nat} {fa a : Addr} {fd : FuncData} {x : Str} {sp : Sp} {t : Shared} {vs : List Value} {ns : List Int}
    (kin : K.In t.heap) (gns : t.heap.Ns mainGlobals mg) (bns : t.heap.Ns builtinsNs mb) (bb : ∀ x : Str, x ≠ "__name__" → mb x = bootBuiltins x) (lim : t.heap.NoLimit) (gen0 : t.gens = #[])
    (sys : ∃ mm, t.heap.Ns sysModules mm)
    (ha : t.heap.get? a = some { cls := .type "list", data := .seq vs.toArray }) (hi : IntsAre vs ns) (hl : ns.length ≤ sizeLine) (room : Room k callerA)
    (F : ∀ base : Heap, K.In base → base.Ns mainGlobals mg → (∃ o, base.get? sysModules = some o) → FnG P w K mg base k fa fd [x] sp) (bind : ∀ (s : Shared) (u : Value), BindsTo s fd ⟨[u], []⟩ [(x, u)])
    (hsp : ∀ H : Hp, SqL K H a (ns.map V.int) → sp [.ref a] H (fun v _ => v = .bl true) fun _ _ _ => False) :
    codeAny (model P w) callerA (.call (.ref fa) ⟨[.ref a], []⟩) (fun r s' => r = .ok (.ret (.bool true)) ∧ OldK t.heap s'.heap ∧ s'.os = t.os ∧ AllBare s'.gens) t := by
  have rv := vals_ints hi
  have lenV := hi.length
  have core : ∀ H : Hp, Only H → SqL K H a (ns.map V.int) → HOk P w H t.heap → (∀ b, H b ≠ none → b = a) → (H a ≠ none → K.lookup a = none) →
      codeAny (model P w) callerA (.call (.ref fa) ⟨[.ref a], []⟩) (fun r s' => r = .ok (.ret (.bool true)) ∧ OldK t.heap s'.heap ∧ s'.os = t.os ∧ AllBare s'.gens) t := by
    intro H only sq ok onlyA outK
    have keepB : ∀ {b : Addr} {o : Obj}, t.heap.get? b = some o → H b = none → (hidT t.heap H).get? b = some o := fun e n => hidT_get e n
    have dictFree : ∀ {b : Addr} {o : Obj} {es : Array DictEntry} {ep : Nat}, t.heap.get? b = some o → o.data = .dict es ep → H b = none := fun {b o es ep} e d => by
      cases q : H b with
      | none => rfl
      | some u =>
        obtain rfl : b = a := onlyA b (by rw [q]; exact fun z => nomatch z)
        rw [ha] at e; cases e
        exact absurd (show Data.seq vs.toArray _ = Data.dict es ep from d) (fun z => nomatch z)
    have nsB : ∀ {b : Addr} {m : Str → Option Value}, t.heap.Ns b m → (hidT t.heap H).Ns b m := fun {b m} ⟨o, es, ep, e, d, r⟩ => ⟨o, es, ep, keepB e (dictFree e d), d, r⟩
    have kinB : K.In (hidT t.heap H) := fun b o e => keepB (kin b o e) (by
      cases q : H b with
      | none => rfl
      | some u =>
        obtain rfl : b = a := onlyA b (by rw [q]; exact fun z => nomatch z)
        rw [outK (by rw [q]; exact fun z => nomatch z)] at e; cases e)
    have sysB : ∃ o, (hidT t.heap H).get? sysModules = some o := by
      obtain ⟨mm, hm⟩ := sys
      obtain ⟨o, es, ep, e, _⟩ := nsB hm
      exact ⟨o, e⟩
    have modB : Mod K mg (hidT t.heap H) := ⟨kinB, nsB gns, ⟨mb, nsB bns, bb⟩, let ⟨mc, h1, h2⟩ := lim; ⟨mc, nsB h1, h2⟩⟩
    have e0 : Env0 P w K mg (hidT t.heap H) callerA [] t H := ⟨rfl, modB, fun b o e => of_hidT e, Nat.le_of_eq (hidT_size _ _), trivial, fun b hb => absurd (show b ∈ ([] : List Addr) from hb) (by simp), ok, .of_eq gen0⟩
    have run := (F _ kinB (nsB gns) sysB).run callerA [] t H ⟨[.ref a], []⟩ [.ref a] [.ref a] _ _ rfl room e0 (bind t (.ref a)) (.cons rfl .nil) (hsp H sq)
    refine codeAny_mono run fun r s' h => ?_
    cases r with
    | error e => exact False.elim h
    | ok fl =>
      cases fl with
      | next => exact False.elim h
      | brk => exact False.elim h
      | cont => exact False.elim h
      | ret u =>
        obtain ⟨v, H', os, bare, un, ok', r', q⟩ := h
        obtain rfl : v = V.bl true := q
        obtain rfl : u = Value.bool true := r'
        refine ⟨rfl, OldK.of_keep fun b o e => ?_, os, bare⟩
        cases q : H b with
        | none => exact un.keep b o e q (by intro z; exact absurd (show b ∈ ([] : List Addr) from z) (by simp)) (by simp)
        | some u =>
          rcases only b with z | ⟨ob, xs, z⟩
          · rw [q] at z; cases z
          · obtain ⟨e1, _⟩ := ok b _ z
            obtain ⟨e2, _⟩ := ok' b _ (un.frzs b ob _ z)
            rw [e] at e1; cases e1
            exact e2
  cases hk : K.lookup a with
  | some o =>
    have e := kin a o hk
    rw [ha] at e
    cases e
    exact core (fun _ => none) (fun _ => .inl rfl) (.inr ⟨_, vs.toArray, _, hk, rfl, rfl, rfl, by rw [List.size_toArray, lenV]; exact hl, by simpa using rv⟩) (fun b u z => nomatch (show (none : Option HO) = some u from z)) (fun b z => absurd rfl z) fun z => absurd rfl z
  | none =>
    have at_ : ∀ b, (if b = a then some (HO.frz { cls := .type "list", data := .seq vs.toArray } (.lst (ns.map V.int))) else none) ≠ none → b = a := fun b z => by
      by_cases y : b = a
      · exact y
      · exact absurd (if_neg y) z
    refine core (fun b => if b = a then some (.frz { cls := .type "list", data := .seq vs.toArray } (.lst (ns.map V.int))) else none) (fun b => ?_) (.inl (.inr ⟨{ cls := .type "list", data := .seq vs.toArray }, if_pos rfl⟩)) (fun b u z => ?_) at_ fun _ => hk
    · by_cases y : b = a
      · exact .inr ⟨_, _, if_pos y⟩
      · exact .inl (if_neg y)
    · obtain rfl : b = a := at_ b (fun y => nomatch z.symm.trans y)
      cases (if_pos rfl).symm.trans z
      exact ⟨ha, by rw [List.length_map]; exact hl, vs, _, rv, ha⟩
/-- the law's promise -/
def spLaw (K : PySem.W.Frag) : Sp := fun vs H Q _ => ∃ (a : Addr) (ns : List Int), vs = [.ref a] ∧ SqL K H a (ns.map V.int) ∧ ns.length ≤ 63 ∧ ∀ H', Q (.bl true) H'
theorem walkG {l : PySem.W.OpenLaw} {k : Nat} {q : Program} {loose : List Str} {XP : (Str → Option Value) → Heap → Prop} {YP : World → Heap → Prop} {d : DefRec} {K : Params → PySem.W.Frag} (hn : l.most = some 63) (hdf : d.params.defaults = []) (room : Room k callerA) (imp : importsNone q = true)
    (hY : ∀ (w : World) (h : Heap), YP w h → (K w.params).In h)
    (F : ∀ (w : World) (mg : Str → Option Value) (fa : Addr) (h : Heap), (K w.params).In h → h.Ns mainGlobals mg → mg d.name = some (.ref fa) →
      ∃ fd : FuncData, (∀ (s : Shared) (u : Value), BindsTo s fd ⟨[u], []⟩ [("script", u)]) ∧
        ∀ base : Heap, (K w.params).In base → base.Ns mainGlobals mg → (∃ o, base.get? sysModules = some o) → FnG l.prog w (K w.params) mg base k fa fd ["script"] (spLaw (K w.params))) :
    PySem.W.WalkO q loose XP YP l.row.toRowW d [] (fun f vs => PySem.call f vs) := by
  refine Att.attach_call hn hdf fun w s0 t mg mb fa o pm cd doc a vs ns G Y ho hd hcd hmg hobj hints hlen hg => ?_
  have kin := hY w _ Y
  obtain ⟨fd, hb, hF⟩ := F w mg fa _ kin G.T.g hmg
  obtain ⟨mm, hm, _⟩ := (G.T.seer imp).mods
  exact lawG_call kin G.T.g G.T.b G.T.builtins G.T.nolimit hg ⟨mm, hm⟩ hobj hints (Nat.le_trans hlen (by decide)) room hF hb fun H hS => ⟨a, ns, rfl, hS, hlen, fun _ => rfl⟩

variable [KC]
/-! ### the law's body: the source is opened, the rest runs on it -/
def spOpen (K : PySem.W.Frag) : Sp := fun vs H Q _ => ∃ (a : Addr) (ns : List Int), vs = [.ref a] ∧ SqL K H a (ns.map V.int) ∧ ns.length ≤ 63 ∧
  ∀ q S H', SrcOk H' q S → Q (.ref q.1) H'
def lawEnv (n : Nat) (S : Src) : EE := ⟨none :: some .src :: List.replicate n none, S⟩
theorem law_G {P : Program} {w : World} {K : PySem.W.Frag} {mg : Str → Option Value} {base : Heap} {x y : Str} {st : Stmt} {f fo : Addr} {fd fdo : FuncData} {N : List Str} {k n : Nat} {B : FS} {rest : List Stmt} {p1 p2 p3 p4 p5 : Pos}
    (F : Fun K x x st f fd) (S : FnScope ("script" :: "source" :: N) ["script"] (defScope st)) (hn : N.length = n)
    (hst : defBody st = .Assign [.Name "source" p1] (.Call (.Name y p2) [.Name "script" p3] [] p4) p5 :: rest)
    (O : FnG P w K mg base k fo fdo ["script"] (spOpen K)) (ho : mg y = some (.ref fo)) (hk : PySem.W.keepIn K (.ref fo) = true) (hb : Binds K fdo ["script"] [])
    (l1 : (defScope st).names.lookup ("script" : Str) = some .local) (l2 : Loc (defScope st) ("source" : Str)) (l3 : (defScope st).names.lookup y = some .globalImplicit) (hdb : (y == ("__debug__" : Str)) = false)
    (hr : ∀ (cdv : Value) (A : Around) (outer : List Env) (s : Shared) (H : Hp) (E : XK), A.guards = some [] → Room k (A.deeper (envOfC x (defScope st) s.heap.objs.size f cdv)) → BD (cxOf CX0 P w K mg base ("script" :: "source" :: N) x (defScope st) f cdv A outer s H E).nox rest B)
    (law : ∀ S, ∃ e', B (lawEnv n S) = some (.rt (.val (.bool true)), e')) : FnG P w K mg base (k + 1) f fd ["script"] (spLaw K) := by
  refine fnG_of F S (fun vs H Q E ⟨a, ns, e, _⟩ => by rw [e]; rfl) fun cdv A outer s H vs Q E gd room h => ?_
  obtain ⟨a, ns, rfl, sq, len, fin⟩ := h
  have gl : Gl (cxOf CX0 P w K mg base ("script" :: "source" :: N) x (defScope st) f cdv A outer s H E).nox y := l3
  refine ⟨_, by
    rw [hst]
    exact pss_cons (ps_set (i := 1) S.nd rfl l2 (pe_callG O gd room gl ho hk hb (pa_cons (pe_var (i := 0) rfl (Or.inl l1) (by decide) (by decide)) pa_nil) hdb) rfl (Or.inl rfl)) (hr cdv A outer s H E gd room), ?_⟩
  have sz : (L2.start ("script" :: "source" :: N) [V.ref a]) = some (.ref a) :: none :: List.replicate n none := by
    unfold L2.start; simp [← hn, List.replicate_succ]
  rw [sz]
  refine ⟨_, rfl, a, ns, rfl, sq, len, fun q S0 H' so => ?_⟩
  obtain ⟨e', hB⟩ := law S0
  refine ⟨⟨H', fun _ => none, some q⟩, fun _ => none, fun _ => none, lawEnv n S0, _, e', ?_, hB, fun v σ' G' own' H2 l R ok => ?_⟩
  · refine ⟨(fun _ _ z => by cases z), Le.rfl', fun _ z => absurd rfl z, fun _ _ z _ => z, by simp [lawEnv], fun i z hz => ?_, (fun _ _ z => by cases z), (fun _ _ _ z => by cases z), (fun _ _ z => by cases z), fun q' hq' => ?_⟩
    · cases i with
      | zero => cases hz
      | succ i => cases i with
        | zero => cases hz; exact ⟨.ref q.1, rfl, q, rfl, rfl⟩
        | succ i =>
          have hz : (List.replicate n (none : Option Ent))[i]? = some (some z) := hz
          rw [List.getElem?_replicate] at hz
          split at hz <;> cases hz
    · cases hq'
      exact ⟨so, rfl, rfl, (by show H' q.1 ≠ none; rw [so.d]; exact fun z => nomatch z), (by show H' q.2 ≠ none; rw [so.c]; exact fun z => nomatch z)⟩
  · have ok : Rp K G' v (.bool true) := ok
    cases ok
    exact fin H2
end EL
namespace EL
open PySem PySem.Spec PyProof.Rows L2
/-! ### a block's names, seen by computing -/
def blkB (N : List Str) (sc scope : Scope) (own : List (Str × Nat)) : Bool :=
  (scope.kind == .function) && (scope.names.all fun y => scope.names.lookup y.1 == some y.2) && (own.all fun p => N[p.2]? == some p.1) &&
  (scope.names.all fun y => if y.2 == .free then (sc.names.lookup y.1 == some .cell || sc.names.lookup y.1 == some .free) else true) &&
  (scope.names.all fun y => if (y.2 == .local || y.2 == .cell) then ((own.map (·.1)).contains y.1 || !N.contains y.1) else true)
theorem blk_of {N : List Str} {sc scope : Scope} {own : List (Str × Nat)} (h : blkB N sc scope own = true) : BlkOk N sc scope own := by
  unfold blkB at h
  simp only [Bool.and_eq_true, List.all_eq_true] at h
  obtain ⟨⟨⟨⟨h1, h2⟩, h3⟩, h4⟩, h5⟩ := h
  refine ⟨by simpa using h1, fun y hy => by simpa using h2 y hy, fun p hp => by simpa using h3 p hp, fun y hy hf => ?_, fun y hy hl => ?_⟩
  · have := h4 y hy
    rw [hf] at this
    simpa using this
  · have := h5 y hy
    rcases hl with e | e <;> rw [e] at this <;> simpa using this
end EL
/-! EL11: lists of unlike lengths compared; defs by their names. -/
namespace EL
open PySem PySem.Spec PyProof.Rows L2
variable [KC]
def lNe : D → D → Option Rs
  | .list a, .list b => if (a.length != b.length) = true then some (.val (.bool true)) else qNe (.list a) (.list b)
  | x, y => qNe x y
theorem l_ne {X : Cx} (hu : X.A.units + 64 < cLine) : OpD X (compareOp .NotEq) lNe := by
  intro pins s σ H x y v u Q I rx ry h
  obtain ⟨G, dx, dy, r, sub, hx, hy, hg, k⟩ := h
  unfold lNe at hg
  split at hg
  · split at hg
    · rename_i a b hz
      cases hg
      obtain ⟨p, vs, rfl, h1, h2⟩ := hx.list sub
      obtain ⟨q, ws, rfl, h3, h4⟩ := hy.list sub
      cases rx
      cases ry
      obtain ⟨i1, r1, pl1, z1⟩ := I.list (.of h1)
      obtain ⟨i2, r2, pl2, z2⟩ := I.list (.of h3)
      have e : (i1.toArray.size != i2.toArray.size) = true := by
        rw [List.size_toArray, List.size_toArray, ← r1.length, ← r2.length, h2.length, h4.length]; exact hz
      exact (SeqAt.RcNeAt.lists_lengths pl1.isList pl2.isList e (by omega)) X.prog X.w X.xe _ ⟨.bl true, H, I, rfl, k _ _ (.same (.bl _))⟩
    · exact q_ne hu pins s σ H x y v u Q I rx ry ⟨G, _, _, r, sub, hx, hy, hg, k⟩
  · exact q_ne hu pins s σ H x y v u Q I rx ry ⟨G, _, _, r, sub, hx, hy, hg, k⟩

theorem u65 {k : Nat} {A : Around} (h : Room k A) : A.units + 65 < cLine := by have := h.un; omega
theorem u64 {k : Nat} {A : Around} (h : Room k A) : A.units + 64 < cLine := by have := h.un; omega
theorem u1 {k : Nat} {A : Around} (h : Room k A) : A.units + 1 < cLine := by have := h.un; omega

/-- a def of the top: its object, its name -/
def Def (K : PySem.W.Frag) (mg : Str → Option Value) (x : Str) (st : Stmt) (ps : List Str) : Prop := ∃ f fd, Fun K x x st f fd ∧ mg x = some (.ref f) ∧ Binds K fd ps []
/-- a def that keeps its promise -/
def Cal (P : Program) (w : World) (K : PySem.W.Frag) (mg : Str → Option Value) (base : Heap) (k : Nat) (x : Str) (ps : List Str) (sp : Sp) : Prop :=
  ∃ f fd, FnG P w K mg base k f fd ps sp ∧ mg x = some (.ref f) ∧ PySem.W.keepIn K (.ref f) = true ∧ Binds K fd ps []
section
variable {P : Program} {w : World} {K : PySem.W.Frag} {mg : Str → Option Value} {base : Heap} {k : Nat} {x : Str} {ps : List Str} {sp : Sp} {st : Stmt}
theorem Cal.mono {j : Nat} (c : Cal P w K mg base j x ps sp) (h : j ≤ k) : Cal P w K mg base k x ps sp := by
  obtain ⟨f, fd, g, m, kp, b⟩ := c
  exact ⟨f, fd, g.mono h, m, kp, b⟩
theorem cal_of (d : Def K mg x st ps) (h : ∀ {f : Addr} {fd : FuncData}, Fun K x x st f fd → FnG P w K mg base k f fd ps sp) : Cal P w K mg base k x ps sp := by
  obtain ⟨f, fd, F, m, b⟩ := d
  exact ⟨f, fd, h F, m, F.kp, b⟩
theorem cal_D {N : List Str} {B : FS} (d : Def K mg x st ps) (S : FnScope N ps (defScope st))
    (hb : ∀ (f : Addr) (cdv : Value) (A : Around) (outer : List Env) (s : Shared) (H : Hp) (E : XK), A.guards = some [] → Room k (A.deeper (envOfC x (defScope st) s.heap.objs.size f cdv)) → BD (cxOf CX0 P w K mg base N x (defScope st) f cdv A outer s H E).nox (defBody st) B) :
    Cal P w K mg base (k + 1) x ps (spD K (runD ps.length N.length B)) := cal_of d fun F => fn_D F S fun cdv A outer s H E gd hr => hb _ cdv A outer s H E gd hr
theorem cal_S {N : List Str} {B : FS} (d : Def K mg x st ps) (S : FnScope N ps (defScope st))
    (hb : ∀ (f : Addr) (cdv : Value) (A : Around) (outer : List Env) (s : Shared) (H : Hp) (E : XK), A.guards = some [] → Room k (A.deeper (envOfC x (defScope st) s.heap.objs.size f cdv)) → BD (cxOf CX0 P w K mg base N x (defScope st) f cdv A outer s H E).nox (defBody st) B) :
    Cal P w K mg base (k + 1) x ps (spS K (runS ps.length N.length B)) := cal_of d fun F => fn_S F S fun cdv A outer s H E gd hr => hb _ cdv A outer s H E gd hr
/-- a def that is never called -/
theorem cal_none (d : Def K mg x st ps) : Cal P w K mg base k x ps (spS K fun _ _ => none) := cal_of d fun F =>
  ⟨fun vs H Q E h => (by obtain ⟨q, us, S, G, ds, r, S', _, _, _, _, _, _, hf, _⟩ := h; cases hf), fun A o s H a us vs Q E gd hr e0 hb hv h => by obtain ⟨q, us, S, G, ds, r, S', _, _, _, _, _, _, hf, _⟩ := h; cases hf⟩
theorem cal_noneD (d : Def K mg x st ps) : Cal P w K mg base k x ps (spD K fun _ => none) := cal_of d fun F =>
  ⟨fun vs H Q E h => (by obtain ⟨G, ds, r, _, _, hf, _⟩ := h; cases hf), fun A o s H a us vs Q E gd hr e0 hb hv h => by obtain ⟨G, ds, r, _, _, hf, _⟩ := h; cases hf⟩
end
section
variable {X : Cx} {k : Nat} {ps : List Str} {x : Str} {p pos : Pos} {e : Expr} {es : List Expr}
theorem ec {φ : List D → Option Rs} {A : FA} (c : Cal X.prog X.w X.K X.mg X.base k x ps (spD X.K φ)) (gd : X.A.guards = some []) (hr : Room k X.A) (hg : Gl X x) (ha : PA X (e :: es) (tA X.K A)) (hdb : (x == ("__debug__" : Str)) = false := by decide)
    (he : starEach (e :: es) X.env = (false, eval e X.env) :: starEach es X.env := by rfl) (hpl : (backTo pos (starEach es X.env)).any (·.1) = false := by rfl) : ED X (.Call (.Name x p) (e :: es) [] pos) (eCall φ A) := by
  obtain ⟨f, fd, g, m, kp, b⟩ := c
  exact ed_call g gd hr hg m kp b ha hdb he hpl
theorem ec0 {φ : List D → Option Rs} (c : Cal X.prog X.w X.K X.mg X.base k x ps (spD X.K φ)) (gd : X.A.guards = some []) (hr : Room k X.A) (hg : Gl X x) (hdb : (x == ("__debug__" : Str)) = false := by decide) : ED X (.Call (.Name x p) [] [] pos) (eCall φ aNil) := by
  obtain ⟨f, fd, g, m, kp, b⟩ := c
  exact ed_call0 g gd hr hg m kp b hdb
theorem ecS {i : Nat} {φ : List D → Src → Option (Rs × Src)} {A : FA} (c : Cal X.prog X.w X.K X.mg X.base k x ps (spS X.K φ)) (gd : X.A.guards = some []) (hr : Room k X.A) (hg : Gl X x) (h0 : PE X e (tVar i)) (ha : PA X es (tA X.K A)) (hdb : (x == ("__debug__" : Str)) = false := by decide)
    (he : starEach (e :: es) X.env = (false, eval e X.env) :: starEach es X.env := by rfl) (hpl : (backTo pos (starEach es X.env)).any (·.1) = false := by rfl) : ED X (.Call (.Name x p) (e :: es) [] pos) (eCallS i φ A) := by
  obtain ⟨f, fd, g, m, kp, b⟩ := c
  exact ed_callS g gd hr hg m kp b h0 ha hdb he hpl
end
/-- the law by its parts -/
theorem law_cal {P : Program} {w : World} {K : PySem.W.Frag} {mg : Str → Option Value} {base : Heap} {x y : Str} {st : Stmt} {N : List Str} {k n : Nat} {B : FS} {rest : List Stmt} {p1 p2 p3 p4 p5 : Pos} {f : Addr} {fd : FuncData}
    (F : Fun K x x st f fd) (S : FnScope ("script" :: "source" :: N) ["script"] (defScope st)) (hn : N.length = n)
    (hst : defBody st = .Assign [.Name "source" p1] (.Call (.Name y p2) [.Name "script" p3] [] p4) p5 :: rest)
    (O : Cal P w K mg base k y ["script"] (spOpen K))
    (l1 : (defScope st).names.lookup ("script" : Str) = some .local) (l2 : Loc (defScope st) ("source" : Str)) (l3 : (defScope st).names.lookup y = some .globalImplicit) (hdb : (y == ("__debug__" : Str)) = false)
    (hr : ∀ (cdv : Value) (A : Around) (outer : List Env) (s : Shared) (H : Hp) (E : XK), A.guards = some [] → Room k (A.deeper (envOfC x (defScope st) s.heap.objs.size f cdv)) → BD (cxOf CX0 P w K mg base ("script" :: "source" :: N) x (defScope st) f cdv A outer s H E).nox rest B)
    (law : ∀ S, ∃ e', B (lawEnv n S) = some (.rt (.val (.bool true)), e')) : FnG P w K mg base (k + 1) f fd ["script"] (spLaw K) := by
  obtain ⟨fo, fdo, g, m, kp, b⟩ := O
  exact law_G F S hn hst g m kp b l1 l2 l3 hdb hr law
end EL
/-! EL12: tools for the plain law: loops, comprehensions, sizes. -/
namespace EL
open PySem PySem.Spec PyProof.Rows L2
section
theorem compL_pure {vs : List Nat} {g : FG} {t : FT} {F : FE} {e : EE} (b : D → Bool) (f : D → D) : ∀ ds : List D,
    (∀ d ∈ ds, ∃ e1, g d e = some e1 ∧ ∃ e2, t e1 = some (b d, e2) ∧ (b d = true → ∃ r e3, F e2 = some (r, e3) ∧ r.d = f d ∧ wipeE e3 vs = e) ∧ (b d = false → wipeE e2 vs = e)) →
    compL vs g t F ds e = some ((ds.filter b).map f, e)
  | [], _ => rfl
  | d :: ds, h => by
    obtain ⟨e1, h1, e2, h2, h3, h4⟩ := h d List.mem_cons_self
    have ih := compL_pure b f ds fun d' hd => h d' (List.mem_cons_of_mem _ hd)
    unfold compL
    rw [h1, Option.bind_some, h2, Option.bind_some]
    cases hb : b d with
    | true =>
      obtain ⟨r, e3, h5, h6, h7⟩ := h3 hb
      dsimp only
      rw [if_pos rfl, h5, Option.bind_some]
      dsimp only
      rw [h7, ih]
      simp [List.filter, hb, h6]
    | false =>
      dsimp only
      rw [if_neg Bool.false_ne_true, h4 hb, ih]
      simp [List.filter, hb]
/-- a comprehension that changes the state, by an invariant of what is still to come and of what is done -/
theorem compL_inv {vs : List Nat} {g : FG} {t : FT} {F : FE} (P : List D → List D → EE → Prop) : ∀ (ds : List D) (acc : List D) (e : EE), P ds acc e →
    (∀ d rem acc e, P (d :: rem) acc e → ∃ e1, g d e = some e1 ∧ ∃ e2, t e1 = some (true, e2) ∧ ∃ r e3, F e2 = some (r, e3) ∧ P rem (acc ++ [r.d]) (wipeE e3 vs)) →
    ∃ out e', compL vs g t F ds e = some (out, e') ∧ out.length = ds.length ∧ P [] (acc ++ out) e'
  | [], acc, e, h, _ => ⟨[], e, rfl, rfl, by simpa using h⟩
  | d :: ds, acc, e, h, st => by
    obtain ⟨e1, h1, e2, h2, r, e3, h3, h4⟩ := st d ds acc e h
    obtain ⟨out, e', q1, q2, q3⟩ := compL_inv P ds (acc ++ [r.d]) (wipeE e3 vs) h4 st
    refine ⟨r.d :: out, e', ?_, by simp [q2], by simpa using q3⟩
    unfold compL
    rw [h1, Option.bind_some, h2, Option.bind_some]
    dsimp only
    rw [if_pos rfl, h3, Option.bind_some]
    dsimp only
    rw [q1]; rfl
theorem forL_inv {g : FG} {B : FS} (P : List D → EE → Prop) : ∀ (ds : List D) (e : EE), P ds e →
    (∀ d rem e, P (d :: rem) e → ∃ e1, g d e = some e1 ∧ ∃ e2, B e1 = some (.nx, e2) ∧ P rem e2) →
    ∃ e', forL g B ds e = some (.nx, e') ∧ P [] e'
  | [], e, h, _ => ⟨e, rfl, h⟩
  | d :: ds, e, h, st => by
    obtain ⟨e1, h1, e2, h2, h3⟩ := st d ds e h
    obtain ⟨e', q1, q2⟩ := forL_inv P ds e2 h3 st
    refine ⟨e', ?_, q2⟩
    unfold forL
    rw [h1, Option.bind_some, h2, Option.bind_some]
    exact q1
theorem bCons_nx {A B : FS} {e e1 : EE} (h : A e = some (.nx, e1)) : bCons A B e = B e1 := by unfold bCons; rw [h]; rfl
theorem bCons_rt {A B : FS} {e e1 : EE} {r : Rs} (h : A e = some (.rt r, e1)) : bCons A B e = some (.rt r, e1) := by unfold bCons; rw [h]; rfl

/-! ### how much is shown -/
structure Fn (N h : Nat) (d : D) : Prop where
  s : d.showable = true
  l : d.leavesShort 2000 = true
  w : d.weight ≤ N
  d : d.depth ≤ h
structure FnA (N h : Nat) (ds : List D) : Prop where
  s : PyData.showableAll ds = true
  l : PyData.leavesShortAll 2000 ds = true
  w : PyData.weightAll ds ≤ N
  d : PyData.depthAll ds ≤ h
section
variable {N M h : Nat} {d : D} {ds es : List D}
theorem Fn.le (x : Fn N h d) {N' h' : Nat} (a : N ≤ N') (b : h ≤ h') : Fn N' h' d := ⟨x.s, x.l, Nat.le_trans x.w a, Nat.le_trans x.d b⟩
theorem FnA.le (x : FnA N h ds) {N' h' : Nat} (a : N ≤ N') (b : h ≤ h') : FnA N' h' ds := ⟨x.s, x.l, Nat.le_trans x.w a, Nat.le_trans x.d b⟩
theorem Fn.ok (x : Fn 8000 180 d) : rpOk d = true := by
  have h1 := PyData.shown_le 2000 (by decide) d x.l
  have h2 := x.w
  unfold rpOk
  rw [x.s, Bool.true_and, Bool.and_eq_true]
  exact ⟨hid x.d, small_le (by omega)⟩
theorem FnA.tup (x : FnA N h ds) : Fn N (h + 1) (.tuple ds) := ⟨by simpa [PyData.showable] using x.s, by simpa [PyData.leavesShort] using x.l, by simpa [PyData.weight] using x.w, by have := x.d; simp [PyData.depth]; omega⟩
theorem FnA.lst (x : FnA N h ds) : Fn N (h + 1) (.list ds) := ⟨by simpa [PyData.showable] using x.s, by simpa [PyData.leavesShort] using x.l, by simpa [PyData.weight] using x.w, by have := x.d; simp [PyData.depth]; omega⟩
theorem Fn.untup (x : Fn N h (.tuple ds)) : FnA N h ds := ⟨by simpa [PyData.showable] using x.s, by simpa [PyData.leavesShort] using x.l, by simpa [PyData.weight] using x.w, by have := x.d; simp [PyData.depth] at this; omega⟩
theorem FnA.nil : FnA 0 0 ([] : List D) := ⟨rfl, rfl, Nat.le_refl _, Nat.le_refl _⟩
theorem FnA.cons (x : Fn N h d) (y : FnA M h ds) : FnA (N + 1 + M) h (d :: ds) :=
  ⟨by simp [PyData.showableAll, x.s, y.s], by simp [PyData.leavesShortAll, x.l, y.l], by have := x.w; have := y.w; simp [PyData.weightAll]; omega, by have := x.d; have := y.d; simp [PyData.depthAll]; omega⟩
theorem FnA.uncons (y : FnA M h (d :: ds)) : Fn M h d ∧ FnA M h ds := by
  obtain ⟨a, b, c, e⟩ := y
  simp only [PyData.showableAll, Bool.and_eq_true] at a
  simp only [PyData.leavesShortAll, Bool.and_eq_true] at b
  simp only [PyData.weightAll] at c
  simp only [PyData.depthAll] at e
  exact ⟨⟨a.1, b.1, by omega, by omega⟩, ⟨a.2, b.2, by omega, by omega⟩⟩
theorem FnA.app (x : FnA N h ds) (y : FnA M h es) : FnA (N + M) h (ds ++ es) := by
  induction ds generalizing N with
  | nil => exact y.le (by omega) (Nat.le_refl _)
  | cons d ds ih =>
    obtain ⟨a, b, c, e⟩ := x
    simp only [PyData.showableAll, Bool.and_eq_true] at a
    simp only [PyData.leavesShortAll, Bool.and_eq_true] at b
    simp only [PyData.weightAll] at c
    simp only [PyData.depthAll] at e
    have z := ih (N := N - (d.weight + 1)) ⟨a.2, b.2, by omega, by omega⟩
    have := FnA.cons (N := d.weight) (h := h) (d := d) ⟨a.1, b.1, Nat.le_refl _, by omega⟩ z
    exact this.le (by omega) (Nat.le_refl _)
theorem FnA.mem (x : FnA N h ds) (m : d ∈ ds) : Fn N h d := by
  induction ds with
  | nil => cases m
  | cons e ds ih =>
    obtain ⟨a, b⟩ := x.uncons
    rcases List.mem_cons.mp m with rfl | m
    · exact a
    · exact ih b m
theorem FnA.sub (x : FnA N h es) (m : ds.Sublist es) : FnA N h ds := by
  induction m generalizing N with
  | slnil => exact x
  | cons a _ ih => exact ih x.uncons.2
  | @cons_cons l1 l2 a _ ih =>
    obtain ⟨p, q, r, t⟩ := x
    simp only [PyData.showableAll, Bool.and_eq_true] at p
    simp only [PyData.leavesShortAll, Bool.and_eq_true] at q
    simp only [PyData.weightAll] at r
    simp only [PyData.depthAll] at t
    have z := ih (N := N - (a.weight + 1)) ⟨p.2, q.2, by omega, by omega⟩
    have := FnA.cons (N := a.weight) (h := h) (d := a) ⟨p.1, q.1, Nat.le_refl _, by omega⟩ z
    exact this.le (by omega) (Nat.le_refl _)
theorem FnA.take (x : FnA N h ds) (k : Nat) : FnA N h (ds.take k) := x.sub (List.take_sublist k ds)
theorem FnA.drop (x : FnA N h ds) (k : Nat) : FnA N h (ds.drop k) := x.sub (List.drop_sublist k ds)
theorem FnA.cut (x : FnA N h ds) (lo hi : Option Int) : FnA N h (cutD ds lo hi) := (x.drop _).take _
theorem FnA.rev (x : FnA N h ds) : FnA N h ds.reverse := by
  induction ds generalizing N with
  | nil => exact x
  | cons d ds ih =>
    obtain ⟨p, q, r, t⟩ := x
    simp only [PyData.showableAll, Bool.and_eq_true] at p
    simp only [PyData.leavesShortAll, Bool.and_eq_true] at q
    simp only [PyData.weightAll] at r
    simp only [PyData.depthAll] at t
    have z := ih (N := N - (d.weight + 1)) ⟨p.2, q.2, by omega, by omega⟩
    have := z.app (FnA.cons (N := d.weight) (h := h) (d := d) ⟨p.1, q.1, Nat.le_refl _, by omega⟩ (FnA.nil.le (Nat.le_refl _) (Nat.zero_le _)))
    rw [List.reverse_cons]
    exact this.le (by omega) (Nat.le_refl _)
/-- all alike: a bound for each -/
theorem FnA.all (k : ∀ d ∈ ds, Fn N h d) : FnA (ds.length * (N + 1)) h ds := by
  induction ds with
  | nil => exact FnA.nil.le (Nat.zero_le _) (Nat.zero_le _)
  | cons d ds ih =>
    have := FnA.cons (k d List.mem_cons_self) (ih fun e m => k e (List.mem_cons_of_mem _ m))
    refine this.le ?_ (Nat.le_refl _)
    rw [List.length_cons, Nat.add_mul, Nat.one_mul]; omega
end
/-- a closed tree, seen by computing -/
def fnB (N h : Nat) (d : D) : Bool := d.showable && d.leavesShort 2000 && decide (d.weight ≤ N) && decide (d.depth ≤ h)
theorem fn_of {N h : Nat} {d : D} (k : fnB N h d = true) : Fn N h d := by
  unfold fnB at k
  simp only [Bool.and_eq_true] at k
  exact ⟨k.1.1.1, k.1.1.2, of_decide_eq_true k.1.2, of_decide_eq_true k.2⟩
end
end EL
/-! EL13: chains of comparisons, walks over texts, enumerate, sorted, dict(..), items, split. -/
namespace EL
open PySem PySem.Spec PyProof.Rows L2
variable [KC]

/-! ### a < b < c -/
def eChain (g g' : D → D → Option Rs) (A B C : FO) : FE := fun e => (A e).bind fun p => (B p.2).bind fun q => (p.1 q.2).bind fun x => (q.1 q.2).bind fun y => (g x y).bind fun r => match r with
  | .val (.bool true) => (C q.2).bind fun u => (q.1 u.2).bind fun y2 => (u.1 u.2).bind fun z => (g' y2 z).bind fun r' => some (r', u.2)
  | .val (.bool false) => some (.val (.bool false), q.2)
  | _ => none
abbrev rD (X : Cx) (g : D → D → Option Rs) : R2 := fun x y H Q => ∃ G dx dy r, Le G H ∧ Rr X.K G H x dx ∧ Rr X.K G H y dy ∧ g dx dy = some r ∧ ∀ v H', Grow X.K G H v r H' → Q v H'
section
variable {X : Cx} {a b c : Expr} {pos : Pos} {A B C : FO} {g g' : D → D → Option Rs}
theorem chain_imp {σ : L2.St} {H : Hp} {Q : VK} (w : tE X.K (eChain g g' A B C) σ H Q) : tChain (rD X g) (rD X g') (tO X.K A) (tO X.K B) (tO X.K C) σ H Q := by
  obtain ⟨Cn, G, own, ev, r, e', R, hf, k⟩ := w
  obtain ⟨⟨t1, e1⟩, h1, h2⟩ := bind_some_of hf
  obtain ⟨⟨t2, e2⟩, h3, h4⟩ := bind_some_of h2
  obtain ⟨x, h5, h6⟩ := bind_some_of h4
  obtain ⟨y, h7, h8⟩ := bind_some_of h6
  obtain ⟨r1, h9, h10⟩ := bind_some_of h8
  refine ⟨Cn, G, own, ev, t1, e1, R, h1, fun v G1 own1 H1 l1 R1 g1 => ⟨Cn, G1, own1, e1, t2, e2, R1, h3, fun u G2 own2 H2 l2 R2 g2 => ?_⟩⟩
  refine ⟨G2, x, y, r1, R2.sub, g1 _ _ _ _ _ l2 R2 h5, g2 _ _ _ _ _ Le.rfl' R2 h7, h9, fun z H3 gr => ?_⟩
  obtain ⟨G3, l3, R3, ok⟩ := R2.grow gr
  dsimp only at h10
  split at h10
  · have ok : Rp X.K G3 z (.bool true) := ok
    cases ok
    obtain ⟨⟨t3, e3⟩, y1, y2⟩ := bind_some_of h10
    obtain ⟨d1, y3, y4⟩ := bind_some_of y2
    obtain ⟨d2, y5, y6⟩ := bind_some_of y4
    obtain ⟨r2, y7, y8⟩ := bind_some_of y6
    cases y8
    refine ⟨true, rfl, iteT ⟨Cn, G3, own2, e2, t3, _, R3, y1, fun w G4 own4 H4 l4 R4 g4 => ?_⟩⟩
    refine ⟨G4, d1, d2, r, R4.sub, g2 _ _ _ _ _ (l3.tr l4) R4 y3, g4 _ _ _ _ _ Le.rfl' R4 y5, y7, fun z H5 gr => ?_⟩
    obtain ⟨G5, l5, R5, ok⟩ := R4.grow gr
    exact k z G5 own4 H5 (l1.tr (l2.tr (l3.tr (l4.tr l5)))) R5 ok
  · cases h10
    have ok : Rp X.K G3 z (.bool false) := ok
    cases ok
    exact ⟨false, rfl, iteF (k _ G3 own2 H3 (l1.tr (l2.tr l3)) R3 (Rp.bl false))⟩
  · cases h10
theorem ed_chain {op op' : CmpOp} (ho : OpD X (compareOp op) g) (ho' : OpD X (compareOp op') g') (ha : OE X a A) (hb : OE X b B) (hc : OE X c C) (hm : lastMarks [op, op'] [b, c] = false := by with_unfolding_all rfl) :
    ED X (.Compare a [op, op'] [b, c] pos) (eChain g g' A B C) := peImp (pe_chain ho ho' ha hb hc hm) fun _ _ _ w => chain_imp w
theorem td_chain {op op' : CmpOp} (ho : OpD X (compareOp op) g) (ho' : OpD X (compareOp op') g') (ha : OE X a A) (hb : OE X b B) (hc : OE X c C) (hm : lastMarks [op, op'] [b, c] = false := by with_unfolding_all rfl) :
    TD X (.Compare a [op, op'] [b, c] pos) (tOf (eChain g g' A B C)) := ptImp (pt_chain ho ho' ha hb hc hm) fun _ _ _ w => chain_imp (tof_imp w)
end

/-! ### a text walked; a sign in a text -/
def signs (x : Str) : List D := x.cps.toList.map fun c => .str ⟨#[c]⟩
def iStrD (F : FE) : FA := fun e => (F e).bind fun p => match p.1 with
  | .val (.str x) => some (signs x, p.2)
  | _ => none
theorem it_str {K : PySem.W.Frag} {G : Hp} (x : Str) : ItOk K G (Its x) (signs x) where
  go := fun G2 H2 i d l1 l2 hd => by
    have hi : i < x.cps.size := by have := ltOf hd; simpa [signs] using this
    refine ⟨hi, fun v H3 hy => ?_⟩
    obtain ⟨rfl, c, hc, rfl⟩ := hy
    have e : (signs x)[i]? = some (.str ⟨#[c]⟩) := by
      unfold signs
      rw [List.getElem?_map, Array.getElem?_toList, hc]; rfl
    rw [e] at hd
    cases hd
    exact .same (.str _)
  stop := fun G2 H2 l1 l2 => by show x.cps.size ≤ (signs x).length; simp [signs]
theorem id_str {X : Cx} {tg iter : Expr} {F : FE} (h : ED X iter F) : ID X tg iter (iStrD F) := by
  refine ⟨fun pins s σ H Q I w => ?_⟩
  obtain ⟨C, G, own, ev, ds, e', R, hf, k⟩ := w
  obtain ⟨⟨r, e1⟩, q1, q2⟩ := bind_some_of hf
  dsimp only at q2
  split at q2
  · rename_i x
    cases q2
    refine (pi_str h).run pins s σ H Q I ⟨C, G, own, ev, _, _, R, q1, fun v G1 own1 H1 l1 R1 ok => ?_⟩
    have ok : Rp X.K G1 v (.str x) := ok
    cases ok
    exact ⟨x, rfl, k _ G1 own1 H1 l1 R1 (it_str x)⟩
  · cases q2
def gInS : D → D → Option Rs
  | .str a, .str z => match a.cps.toList with
    | [c] => some (.val (.bool (decide (c ∈ z.cps.toList))))
    | _ => none
  | _, _ => none
theorem o_inS {X : Cx} : OpD X (compareOp .In) gInS := by
  intro pins s σ H x y v u Q I rx ry h
  obtain ⟨G, dx, dy, r, sub, hx, hy, hg, k⟩ := h
  unfold gInS at hg
  split at hg
  · rename_i a z
    split at hg
    · rename_i c hc
      cases hg
      cases hx.str; cases hy.str
      have ha : a = ⟨#[c]⟩ := by
        obtain ⟨⟨l⟩⟩ := a
        have : l = [c] := hc
        rw [this]
      subst ha
      exact op_in_sign pins s σ H _ _ v u Q I rx ry ⟨c, z, rfl, rfl, k _ _ (.same (.bl _))⟩
    · cases hg
  · cases hg

/-! ### sorted -/
def insL {α : Type} (le : α → α → Bool) (a : α) : List α → List α
  | [] => [a]
  | b :: l => if le a b = true then a :: b :: l else b :: insL le a l
def srt {α : Type} (le : α → α → Bool) : List α → List α
  | [] => []
  | a :: l => insL le a (srt le l)
section
variable {α : Type} {le : α → α → Bool}
theorem insL_perm (a : α) : ∀ l : List α, (insL le a l).Perm (a :: l)
  | [] => .refl _
  | b :: l => by
    unfold insL
    split
    · exact .refl _
    · exact ((insL_perm a l).cons b).trans (.swap _ _ _)
theorem srt_perm : ∀ l : List α, (srt le l).Perm l
  | [] => .refl _
  | a :: l => (insL_perm a _).trans ((srt_perm l).cons a)
theorem insL_pw (tot : ∀ a b, le a b = true ∨ le b a = true) (tr : ∀ a b c, le a b = true → le b c = true → le a c = true) (a : α) : ∀ {l : List α}, l.Pairwise (fun x y => le x y = true) → (insL le a l).Pairwise (fun x y => le x y = true)
  | [], _ => by simp [insL]
  | b :: l, h => by
    have h' := List.pairwise_cons.mp h
    unfold insL
    split
    · rename_i z
      refine List.pairwise_cons.mpr ⟨fun x hx => ?_, h⟩
      rcases List.mem_cons.mp hx with rfl | hx
      · exact z
      · exact tr _ _ _ z (h'.1 x hx)
    · rename_i z
      refine List.pairwise_cons.mpr ⟨fun x hx => ?_, insL_pw tot tr a h'.2⟩
      rcases List.mem_cons.mp ((insL_perm a l).mem_iff.mp hx) with rfl | hx
      · rcases tot x b with q | q
        · exact absurd q z
        · exact q
      · exact h'.1 x hx
theorem srt_pw (tot : ∀ a b, le a b = true ∨ le b a = true) (tr : ∀ a b c, le a b = true → le b c = true → le a c = true) : ∀ l : List α, (srt le l).Pairwise (fun x y => le x y = true)
  | [] => .nil
  | a :: l => insL_pw tot tr a (srt_pw tot tr l)
/-- sorted is one thing only -/
theorem srt_uniq (anti : ∀ a b, le a b = true → le b a = true → a = b) : ∀ {l m : List α}, l.Perm m → l.Pairwise (fun x y => le x y = true) → m.Pairwise (fun x y => le x y = true) → l = m
  | [], m, p, _, _ => (List.perm_nil.mp p.symm).symm
  | a :: l, [], p, _, _ => absurd (List.perm_nil.mp p) (by simp)
  | a :: l, b :: m, p, h1, h2 => by
    have g1 := List.pairwise_cons.mp h1
    have g2 := List.pairwise_cons.mp h2
    have e : a = b := by
      have ma : a ∈ b :: m := p.mem_iff.mp List.mem_cons_self
      have mb : b ∈ a :: l := p.mem_iff.mpr List.mem_cons_self
      rcases List.mem_cons.mp ma with z | ma
      · exact z
      · rcases List.mem_cons.mp mb with z | mb
        · exact z.symm
        · exact anti _ _ (g1.1 b mb) (g2.1 a ma)
    subst e
    rw [srt_uniq anti p.cons_inv g1.2 g2.2]
end
def leI (a b : Int) : Bool := decide (a ≤ b)
def srtI (ns : List Int) : List Int := srt leI ns
theorem srtI_of {ns ms : List Int} (p : ms.Perm ns) (h : ms.Pairwise (· ≤ ·)) : ms = srtI ns := by
  refine srt_uniq (le := leI) (fun a b h1 h2 => ?_) (p.trans (srt_perm ns).symm) (h.imp fun z => decide_eq_true z) (srt_pw (fun a b => ?_) (fun a b c h1 h2 => ?_) ns)
  · have h1 := of_decide_eq_true h1; have h2 := of_decide_eq_true h2; omega
  · unfold leI; simp only [decide_eq_true_eq]; omega
  · have h1 := of_decide_eq_true h1; have h2 := of_decide_eq_true h2; exact decide_eq_true (by omega)
def gSortI : List D → Option Rs
  | [.list ds] => (intsD ds).bind fun ns => some (.fl ((srtI ns).map .int))
  | _ => none
theorem c_sortI {X : Cx} : CallD X (.builtin "sorted") gSortI := by
  intro pins s σ H xs us Q I rs h
  obtain ⟨G, ds, r, sub, hx, hg, k⟩ := h
  unfold gSortI at hg
  split at hg
  · obtain ⟨bs, q1, q2⟩ := bind_some_of hg
    cases q2
    obtain ⟨x, rfl, h⟩ := hx.one
    obtain ⟨p, vs, rfl, h1, h2⟩ := h.list sub
    rw [intsD_of q1] at h2
    cases h2.toInts
    refine cr_sortedI pins s σ H _ us Q I rs ⟨p, bs, rfl, .of h1, fun ms l hp hs hl => ?_⟩
    rw [srtI_of hp hs]
    exact k _ _ (.lst hl (RpA.ints _))
  · cases hg
end EL
namespace EL
open PySem PySem.Spec PyProof.Rows L2
/-! EL14: the source's fields, what is drawn. -/
namespace Dr
theorem fill4 (p' : V) (a b c : V) : mergeK [] [((.inr "cells" : Key), p'), (.inr "left", a), (.inr "mixed", b), (.inr "turn", c)] = [(.inr "cells", p'), (.inr "left", a), (.inr "mixed", b), (.inr "turn", c)] := by
  have h1 : ¬ ((.inr "cells" : Key) = .inr "left") := by decide +kernel
  have h2 : ¬ ((.inr "cells" : Key) = .inr "mixed") := by decide +kernel
  have h3 : ¬ ((.inr "cells" : Key) = .inr "turn") := by decide +kernel
  have h4 : ¬ ((.inr "left" : Key) = .inr "mixed") := by decide +kernel
  have h5 : ¬ ((.inr "left" : Key) = .inr "turn") := by decide +kernel
  have h6 : ¬ ((.inr "mixed" : Key) = .inr "turn") := by decide +kernel
  simp [mergeK, putK, h1, h2, h3, h4, h5, h6]
/-! ### the source's fields -/
theorem nk : ¬ ((.inr "cells" : Key) = .inr "left") ∧ ¬ ((.inr "cells" : Key) = .inr "mixed") ∧ ¬ ((.inr "cells" : Key) = .inr "turn") ∧ ¬ ((.inr "left" : Key) = .inr "mixed") ∧ ¬ ((.inr "left" : Key) = .inr "turn") ∧ ¬ ((.inr "mixed" : Key) = .inr "turn") := by decide +kernel
theorem nk' : ¬ ((.inr "left" : Key) = .inr "cells") ∧ ¬ ((.inr "mixed" : Key) = .inr "cells") ∧ ¬ ((.inr "turn" : Key) = .inr "cells") ∧ ¬ ((.inr "mixed" : Key) = .inr "left") ∧ ¬ ((.inr "turn" : Key) = .inr "left") ∧ ¬ ((.inr "turn" : Key) = .inr "mixed") := by decide +kernel
theorem srcCells {c : Addr} {S : Src} : valV (srcDict c S) (.inr "cells" : Key) = some (.ref c) := by simp [srcDict, valV]
theorem srcLeft {c : Addr} {S : Src} : valV (srcDict c S) (.inr "left" : Key) = some (.int S.left) := by simp [srcDict, valV, List.find?_cons, nk.1]
theorem srcMixed {c : Addr} {S : Src} : valV (srcDict c S) (.inr "mixed" : Key) = some (.int S.mixed) := by simp [srcDict, valV, List.find?_cons, nk.2.1, nk.2.2.2.1]
theorem srcTurn {c : Addr} {S : Src} : valV (srcDict c S) (.inr "turn" : Key) = some (.int S.turn) := by simp [srcDict, valV, List.find?_cons, nk.2.2.1, nk.2.2.2.2.1, nk.2.2.2.2.2]
theorem putLeft {c : Addr} {cs : List Int} {l m t z : Int} : putK (srcDict c ⟨cs, l, m, t⟩) (.inr "left" : Key) (.int z) = srcDict c ⟨cs, z, m, t⟩ := by simp [srcDict, putK, nk.1, nk'.2.2.2.1, nk'.2.2.2.2.1]
theorem putTurn {c : Addr} {cs : List Int} {l m t z : Int} : putK (srcDict c ⟨cs, l, m, t⟩) (.inr "turn" : Key) (.int z) = srcDict c ⟨cs, l, m, z⟩ := by simp [srcDict, putK, nk.2.2.1, nk.2.2.2.2.1, nk.2.2.2.2.2]
theorem dgetS {H : Hp} {p : Addr} {kvs : List (Key × V)} {f : Str} {v : V} (h : H p = some (.dK kvs)) (e : valV kvs (.inr f : Key) = some v) : DGet H p (.str f) (some v) := by rw [← e]; exact DGet.k (k := .inr f) h
theorem dputS {H : Hp} {p c : Addr} {S : Src} {f : Str} {v : V} (h : H p = some (.dK (srcDict c S))) : DPut H p (.str f) v (upd H p (.dK (putK (srcDict c S) (.inr f) v))) := DPut.k (k := .inr f) h (by show 4 < sizeLine; rw [sizeLine_eq]; decide)
theorem mod_small (x : Int) : -(2 ^ 64) < x.fmod 998244353 ∧ x.fmod 998244353 < 2 ^ 64 := by
  rw [Int.fmod_eq_emod_of_nonneg _ (by decide)]
  have h1 := Int.emod_nonneg x (b := 998244353) (by decide)
  have h2 := Int.emod_lt_of_pos x (b := 998244353) (by decide)
  omega
/-- cells are taken from the end while less than 2 is left -/
def drainR : List Int → Int → List Int × Int
  | [], l => ([], l)
  | c :: cs, l => if l < 2 then drainR cs c else (c :: cs, l)
theorem drainR_stop {l : Int} (h : ¬ l < 2) : ∀ {cs : List Int}, drainR cs l = (cs, l)
  | [] => rfl
  | c :: cs => by unfold drainR; rw [if_neg h]
theorem drainR_go {l c : Int} {cs : List Int} (h : l < 2) : drainR (c :: cs) l = drainR cs c := by rw [drainR, if_pos h]
/-- one draw below m: k1, k2 the law's numbers; st: is the mixed number put back -/
def pkF (k1 k2 : Int) (st : Bool) (m : Int) (S : Src) : Int × Src := if m < 2 then (0, S) else
  if 1 < (drainR S.cells.reverse S.left).2 then ((drainR S.cells.reverse S.left).2.fmod m, ⟨(drainR S.cells.reverse S.left).1.reverse, (drainR S.cells.reverse S.left).2.fdiv m, S.mixed, S.turn⟩)
  else ((((((S.mixed + (S.turn + 1) * k1).fmod 998244353 * (S.mixed + (S.turn + 1) * k1).fmod 998244353 + (S.turn + 1) * k2).fmod 2147483647).fdiv 16).fmod m), ⟨(drainR S.cells.reverse S.left).1.reverse, (drainR S.cells.reverse S.left).2,
    if st = true then ((S.mixed + (S.turn + 1) * k1).fmod 998244353 * (S.mixed + (S.turn + 1) * k1).fmod 998244353 + (S.turn + 1) * k2).fmod 2147483647 else S.mixed, S.turn + 1⟩)
theorem pkF_lt {k1 k2 : Int} {st : Bool} {m : Int} (h : 1 ≤ m) (S : Src) : 0 ≤ (pkF k1 k2 st m S).1 ∧ (pkF k1 k2 st m S).1 < m := by
  unfold pkF
  have key : ∀ x : Int, 0 ≤ x.fmod m ∧ x.fmod m < m := fun x => by
    rw [Int.fmod_eq_emod_of_nonneg _ (by omega)]
    exact ⟨Int.emod_nonneg _ (by omega), Int.emod_lt_of_pos _ (by omega)⟩
  split
  · exact ⟨by show (0 : Int) ≤ 0; decide, by show (0 : Int) < m; omega⟩
  · split
    · exact key _
    · exact key _
def pickOk (m : Int) : Bool := hide (1 ≤ m ∧ m < 1073741824)
def gPk (f : Int → Src → Int × Src) : List D → Src → Option (Rs × Src)
  | [.int m], S => if pickOk m = true then some (.val (.int (f m S).1), (f m S).2) else none
  | _, _ => none
theorem gPk_some {f : Int → Src → Int × Src} {ds : List D} {S S' : Src} {r : Rs} (h : gPk f ds S = some (r, S')) : ∃ m, ds = [.int m] ∧ 1 ≤ m ∧ m < 1073741824 ∧ r = .val (.int (f m S).1) ∧ S' = (f m S).2 := by
  unfold gPk at h
  split at h
  · split at h
    · rename_i m hz; cases h
      obtain ⟨h1, h2⟩ := unhide hz
      exact ⟨m, rfl, h1, h2, rfl, rfl⟩
    · cases h
  · cases h
theorem gPk_len {f : Int → Src → Int × Src} {ds : List D} {S S' : Src} {r : Rs} (h : gPk f ds S = some (r, S')) : ds.length = 1 := by
  obtain ⟨m, rfl, _⟩ := gPk_some h; rfl
/-- a draw, for the plain law -/
theorem drawF {k1 k2 : Int} {st : Bool} {m : Int} (h : 1 ≤ m) (h2 : m < 1073741824) (S : Src) : ∃ r S', gPk (pkF k1 k2 st) [.int m] S = some (.val (.int r), S') ∧ 0 ≤ r ∧ r < m := by
  have := pkF_lt (k1 := k1) (k2 := k2) (st := st) h S
  refine ⟨(pkF k1 k2 st m S).1, (pkF k1 k2 st m S).2, ?_, this.1, this.2⟩
  show (if pickOk m = true then _ else _) = _
  rw [if_pos (show pickOk m = true from hid ⟨h, h2⟩)]
theorem putMixed {c : Addr} {cs : List Int} {l m t z : Int} : putK (srcDict c ⟨cs, l, m, t⟩) (.inr "mixed" : Key) (.int z) = srcDict c ⟨cs, l, z, t⟩ := by simp [srcDict, putK, nk.2.1, nk.2.2.2.1, nk'.2.2.2.2.2]
theorem mod_small2 (x : Int) : -(2 ^ 64) < x.fmod 2147483647 ∧ x.fmod 2147483647 < 2 ^ 64 := by
  rw [Int.fmod_eq_emod_of_nonneg _ (by decide)]
  have h1 := Int.emod_nonneg x (b := 2147483647) (by decide)
  have h2 := Int.emod_lt_of_pos x (b := 2147483647) (by decide)
  omega
end Dr
end EL
/-! EL15: constants of the module, sorted keys, dict(pairs), list(items), split. -/
namespace EL
open PySem PySem.Spec PyProof.Rows L2
variable [KC]

/-! ### numbers and texts that the top has written -/
section
variable {X : Cx} {x : Str} {pos : Pos}
theorem ed_gint {i : Int} (hg : Gl X x) (hm : ∃ t, X.mg x = some (.int i t)) (hd : (x == ("__debug__" : Str)) = false := by decide) : ED X (.Name x pos) (fC (.int i)) := by
  obtain ⟨t, hm⟩ := hm
  exact ed_glob (v := .int i) hg hm ⟨t, rfl⟩ (.int i) hd
theorem ed_gstr {z : Str} (hg : Gl X x) (hm : ∃ t, X.mg x = some (.str z t)) (hd : (x == ("__debug__" : Str)) = false := by decide) : ED X (.Name x pos) (fC (.str z)) := by
  obtain ⟨t, hm⟩ := hm
  exact ed_glob (v := .str z) hg hm ⟨t, rfl⟩ (.str z) hd
end

/-! ### dict([(k, v), ..]) -/
def pairsOf : List D → Option (List (D × D))
  | [] => some []
  | .tuple [k, v] :: ds => (keyOf k).bind fun _ => (pairsOf ds).bind fun ps => some ((k, v) :: ps)
  | _ => none
def gDictP : List D → Option Rs
  | [.list ds] => (pairsOf ds).bind fun ps => some (.fd false (dMerge [] ps))
  | _ => none
theorem Rp.kV {K : PySem.W.Frag} {G : Hp} {v : V} {d : D} {k : Key} (e : keyOf d = some k) (h : Rp K G v d) : v = kV k := by
  have := keyOf_some e
  subst this
  rcases k with k | k
  · have h : Rp K G v (.int k) := h; cases h; rfl
  · have h : Rp K G v (.str k) := h; cases h; rfl
theorem pairs_of {K : PySem.W.Frag} {G : Hp} : ∀ {ds : List D} {ps : List (D × D)} {vs : List V}, pairsOf ds = some ps → RpA K G vs ds →
    ∃ (as : List Addr) (kvs : List (Key × V)) (es : List D), vs = as.map V.ref ∧ (∀ H, Le G H → Paired (fun p kv => SqT K H p [L2.kV kv.1, kv.2]) as kvs) ∧ RpA K G (kvs.map (·.2)) es ∧ ps = (kvs.map fun q => kd q.1).zip es
  | [], ps, vs, h, r => by cases h; cases r; exact ⟨[], [], [], rfl, fun _ _ => .nil, .nil, rfl⟩
  | d :: ds, ps, vs, h, r => by
    unfold pairsOf at h
    split at h
    · rename_i hh; cases hh
    · rename_i k v ds' hh
      cases hh
      obtain ⟨key, h1, h2⟩ := bind_some_of h
      obtain ⟨ps', h3, h4⟩ := bind_some_of h2
      cases h4
      cases r with
      | cons r1 r2 =>
        obtain ⟨as, kvs, es, e1, e2, e3, e4⟩ := pairs_of h3 r2
        obtain ⟨a, rfl⟩ := r1.isRef
        obtain ⟨ws, hs, ra⟩ := r1.sqT
        cases ra with
        | cons x1 x2 =>
          cases x2 with
          | cons y1 y2 =>
            cases y2
            have ek := x1.kV h1
            subst ek
            have kk := keyOf_some h1
            subst kk
            refine ⟨a :: as, (key, _) :: kvs, v :: es, by rw [e1]; rfl, fun H l => .cons (sqT_mono l hs) (e2 H l), .cons y1 e3, by rw [e4]; rfl⟩
    · cases h
theorem c_dictP {X : Cx} (hc : X.calm = true) : CallD X (.type "dict") gDictP := by
  intro pins s σ H xs us Q I rs h
  obtain ⟨G, ds, r, sub, hx, hg, k⟩ := h
  unfold gDictP at hg
  split at hg
  · obtain ⟨ps, q1, q2⟩ := bind_some_of hg
    cases q2
    obtain ⟨x, rfl, h⟩ := hx.one
    obtain ⟨p, vs, rfl, h1, h2⟩ := h.list sub
    obtain ⟨as, kvs, es, rfl, e2, e3, rfl⟩ := pairs_of q1 h2
    obtain ⟨ds', m1, m2⟩ := merge_ok (l := []) (ds := []) .nil e3
    refine call_dictP hc pins s σ H _ us Q I rs ⟨p, as, kvs, rfl, .of h1, e2 H sub, fun l hl => ?_⟩
    have e : dMerge [] ((kvs.map fun q => kd q.1).zip es) = ((mergeV [] kvs).map fun q => kd q.1).zip ds' := m2
    rw [e] at k
    exact k _ _ (.dk hl m1)
  · cases hg

/-! ### sorted(d), the keys texts -/
def leS (a b : Str) : Bool := !ltCps b.cps.toList a.cps.toList
def srtS (xs : List Str) : List Str := srt leS xs
theorem ltCps_irr : ∀ l : List Nat, ltCps l l = false
  | [] => rfl
  | a :: l => by simp [ltCps, ltCps_irr l]
theorem ltCps_asym : ∀ a b : List Nat, ltCps a b = true → ltCps b a = false
  | [], [], h => by simp [ltCps] at h
  | [], _ :: _, _ => by simp [ltCps]
  | _ :: _, [], h => by simp [ltCps] at h
  | a :: l, b :: m, h => by
    simp only [ltCps, Bool.or_eq_true, Bool.and_eq_true, decide_eq_true_eq, beq_iff_eq] at h
    simp only [ltCps, Bool.or_eq_false_iff, Bool.and_eq_false_iff, decide_eq_false_iff_not, beq_eq_false_iff_ne]
    rcases h with h | ⟨h1, h2⟩
    · exact ⟨by omega, .inl (by omega)⟩
    · exact ⟨by omega, .inr (ltCps_asym l m h2)⟩
theorem ltCps_tri : ∀ a b : List Nat, ltCps a b = false → ltCps b a = false → a = b
  | [], [], _, _ => rfl
  | [], _ :: _, h, _ => by simp [ltCps] at h
  | _ :: _, [], _, h => by simp [ltCps] at h
  | a :: l, b :: m, h, g => by
    simp only [ltCps, Bool.or_eq_false_iff, Bool.and_eq_false_iff, decide_eq_false_iff_not, beq_eq_false_iff_ne] at h g
    have e : a = b := by omega
    subst e
    have h2 : ltCps l m = false := h.2.resolve_left (by simp)
    have g2 : ltCps m l = false := g.2.resolve_left (by simp)
    rw [ltCps_tri l m h2 g2]
theorem ltCps_tr : ∀ a b c : List Nat, ltCps b a = false → ltCps c b = false → ltCps c a = false
  | a, b, [], h, g => by
    cases b with
    | nil => exact h
    | cons y m => simp [ltCps] at g
  | [], b, z :: n, h, g => by
    simp [ltCps]
  | x :: l, [], z :: n, h, g => by simp [ltCps] at h
  | x :: l, y :: m, z :: n, h, g => by
    simp only [ltCps, Bool.or_eq_false_iff, Bool.and_eq_false_iff, decide_eq_false_iff_not, beq_eq_false_iff_ne] at h g ⊢
    refine ⟨by omega, ?_⟩
    by_cases e : z = x
    · have e1 : y = x := by omega
      have e2 : z = y := by omega
      refine .inr (ltCps_tr l m n (h.2.resolve_left (fun q => q e1)) (g.2.resolve_left (fun q => q e2)))
    · exact .inl e
theorem leS_tot (a b : Str) : leS a b = true ∨ leS b a = true := by
  unfold leS
  cases h : ltCps b.cps.toList a.cps.toList with
  | false => exact .inl rfl
  | true => exact .inr (by rw [ltCps_asym _ _ h]; rfl)
theorem leS_tr (a b c : Str) (h : leS a b = true) (g : leS b c = true) : leS a c = true := by
  unfold leS at *
  simp only [Bool.not_eq_true'] at *
  exact ltCps_tr _ _ _ h g
theorem str_ext {a b : Str} (h : a.cps.toList = b.cps.toList) : a = b := by
  obtain ⟨⟨l⟩⟩ := a
  obtain ⟨⟨m⟩⟩ := b
  have h : l = m := h
  rw [h]
theorem leS_anti (a b : Str) (h : leS a b = true) (g : leS b a = true) : a = b := by
  unfold leS at *
  simp only [Bool.not_eq_true'] at *
  exact str_ext (ltCps_tri _ _ g h)
theorem rising_pw : ∀ (l : List Str) (p : Str), risingS p l = true → (p :: l).Pairwise (fun x y => leS x y = true)
  | [], p, _ => by simp
  | x :: l, p, h => by
    have h' : leS p x = true ∧ risingS x l = true := by
      unfold risingS at h
      rw [Bool.and_eq_true] at h
      exact h
    have ih := rising_pw l x h'.2
    refine List.pairwise_cons.mpr ⟨fun y hy => ?_, ih⟩
    rcases List.mem_cons.mp hy with rfl | hy
    · exact h'.1
    · exact leS_tr _ _ _ h'.1 ((List.pairwise_cons.mp ih).1 y hy)
theorem sortedS_pw {l : List Str} (h : sortedS l = true) : l.Pairwise (fun x y => leS x y = true) := by
  cases l with
  | nil => exact .nil
  | cons x l => exact rising_pw l x h
theorem srtS_of {xs ys : List Str} (p : ys.Perm xs) (h : sortedS ys = true) : ys = srtS xs :=
  srt_uniq leS_anti (p.trans (srt_perm xs).symm) (sortedS_pw h) (srt_pw leS_tot leS_tr xs)
theorem srtS_perm {xs ys : List Str} (p : xs.Perm ys) : srtS xs = srtS ys :=
  srt_uniq leS_anti ((srt_perm xs).trans (p.trans (srt_perm ys).symm)) (srt_pw leS_tot leS_tr xs) (srt_pw leS_tot leS_tr ys)
theorem RpA.strL {K : PySem.W.Frag} {G : Hp} : ∀ ns : List Str, RpA K G (ns.map V.str) (ns.map PyData.str)
  | [] => .nil
  | n :: ns => .cons (.str n) (RpA.strL ns)
def strsD : List D → Option (List Str)
  | [] => some []
  | .str b :: ds => (strsD ds).bind fun bs => some (b :: bs)
  | _ => none
theorem strsD_of : ∀ {ds : List D} {bs : List Str}, strsD ds = some bs → ds = bs.map PyData.str
  | [], bs, h => by cases h; rfl
  | d :: ds, bs, h => by
    cases d <;> try (simp [strsD] at h; done)
    obtain ⟨cs, h1, h2⟩ := bind_some_of (by simpa only [strsD] using h)
    cases h2
    rw [strsD_of h1]; rfl
/-- the argument of sorted, list: a dict with texts as keys -/
def keysS (kvs : List (D × D)) : Option (List Str) := strsD (kvs.map (·.1))
def small64b (n : Nat) : Bool := hide (n < 64)
def eSortDS (F : FE) : FE := fun e => (F e).bind fun p => match p.1 with
  | .fd false kvs => (keysS kvs).bind fun ks => if small64b ks.length = true then some (.fl ((srtS ks).map .str), p.2) else none
  | _ => none
def eSortDV (i : Nat) : FE := fun e => (dctAt i e).bind fun z => match z.1 with
  | false => (keysS z.2).bind fun ks => if small64b ks.length = true then some (.fl ((srtS ks).map .str), e) else none
  | _ => none
theorem keys_inr {l : List (Key × V)} {ds : List D} {ks : List Str} (hl : l.length = ds.length) (h : keysS ((l.map fun q => kd q.1).zip ds) = some ks) : l.map (·.1) = ks.map Sum.inr := by
  have e := strsD_of h
  rw [zip_fst (by simpa using hl)] at e
  clear h hl
  induction l generalizing ks with
  | nil =>
    cases ks with
    | nil => rfl
    | cons _ _ => cases e
  | cons q l ih =>
    cases ks with
    | nil => cases e
    | cons k ks =>
      simp only [List.map_cons, List.cons.injEq] at e ⊢
      refine ⟨?_, ih e.2⟩
      rcases hq : q.1 with i | x
      · rw [hq] at e; cases e.1
      · rw [hq] at e
        have := e.1
        simp only [kd, PyData.str.injEq] at this
        rw [this]
section
variable {X : Cx} {e : Expr} {p pos : Pos}
theorem ed_sortDS {F : FE} (hc : X.calm = true) (hg : Gl X "sorted") (hm : X.mg "sorted" = none) (hv : bootBuiltins "sorted" = some (.builtin "sorted")) (he : ED X e F) (hs : starEach (e :: []) X.env = (false, eval e X.env) :: starEach [] X.env := by rfl) :
    ED X (.Call (.Name "sorted" p) [e] [] pos) (eSortDS F) := by
  refine peImp (pe_callB (call_sortedD hc) hg hm hv (pa_cons he pa_nil hs) (by decide) (by decide) hs rfl) fun σ H Q w => ?_
  obtain ⟨C, G, own, ev, r, e', R, hf, k⟩ := w
  obtain ⟨⟨r1, e1⟩, h1, h2⟩ := bind_some_of hf
  dsimp only at h2
  split at h2
  · rename_i kvs
    obtain ⟨ks, q1, q2⟩ := bind_some_of h2
    split at q2
    · rename_i hz
      cases q2
      refine ⟨C, G, own, ev, _, _, R, h1, fun v G1 own1 H1 l1 R1 ok => ?_⟩
      obtain ⟨a, rfl, o1, _⟩ := ok
      obtain ⟨l, ds, x1, x2, rfl, x3⟩ := o1.k
      have ln : l.length = ds.length := by have := x2.length; simpa using this
      refine ⟨a, l, ks, rfl, .inl x1, keys_inr ln q1, unhide hz, fun ys b hp hs hn => ?_⟩
      rw [srtS_of hp hs]
      obtain ⟨G2, l2, R2, ok2⟩ := R1.grow (.lst hn (RpA.strL _))
      exact k _ G2 own1 _ (l1.tr l2) R2 ok2
    · cases q2
  · cases h2
theorem ed_sortDV {i : Nat} (hc : X.calm = true) (hg : Gl X "sorted") (hm : X.mg "sorted" = none) (hv : bootBuiltins "sorted" = some (.builtin "sorted")) (he : PE X e (tVar i)) (hs : starEach (e :: []) X.env = (false, eval e X.env) :: starEach [] X.env := by rfl) :
    ED X (.Call (.Name "sorted" p) [e] [] pos) (eSortDV i) := by
  refine peImp (pe_callB (call_sortedD hc) hg hm hv (pa_cons he pa_nil hs) (by decide) (by decide) hs rfl) fun σ H Q w => ?_
  obtain ⟨C, G, own, ev, r, e', R, hf, k⟩ := w
  obtain ⟨⟨b, kvs⟩, h1, h2⟩ := bind_some_of hf
  dsimp only at h2
  split at h2
  · obtain ⟨ks, q1, q2⟩ := bind_some_of h2
    split at q2
    · rename_i hz
      cases q2
      obtain ⟨a, y1, y2, y3, _⟩ := R.dct (dctAt_some h1)
      obtain ⟨l, ds, x1, x2, rfl, x3⟩ := y3.k
      have ln : l.length = ds.length := by have := x2.length; simpa using this
      refine ⟨_, y1, a, l, ks, rfl, .inl x1, keys_inr ln q1, unhide hz, fun ys b hp hs hn => ?_⟩
      rw [srtS_of hp hs]
      obtain ⟨G2, l2, R2, ok2⟩ := R.grow (.lst hn (RpA.strL _))
      exact k _ G2 own _ l2 R2 ok2
    · cases q2
  · cases h2
end
end EL
/-! EL16: split, list(d.items()), enumerate over a tuple. -/
namespace EL
open PySem PySem.Spec PyProof.Rows L2
variable [KC]
/-- text.split(text) -/
def eSplit (A B : FE) : FE := fun e => (A e).bind fun p => match p.1 with
  | .val (.str a) => (B p.2).bind fun q => match q.1 with
    | .val (.str b) => if ((b.length == 0) == false && hide (a.length + 2 ≤ 16777216)) = true then some (.fl ((Txt.split a b).map .str), q.2) else none
    | _ => none
  | _ => none
section
variable {X : Cx} {o e : Expr} {p apos cpos pos : Pos}
theorem ed_split {A B : FE} (ho : ED X o A) (he : ED X e B) (hs : starEach [e] X.env = [(false, eval e X.env)] := by rfl) (hbase : attributeBase o "split" X.env (eval o X.env) = eval o X.env := by rfl) (hline : (apos.endLine == pos.line) = true := by rfl) :
    ED X (.Call (.Attribute o "split" apos) [e] [] pos) (eSplit A B) := by
  refine peImp (pe_split ho he hs hbase hline) fun σ H Q w => ?_
  obtain ⟨C, G, own, ev, r, e', R, hf, k⟩ := w
  obtain ⟨⟨r1, e1⟩, h1, h2⟩ := bind_some_of hf
  dsimp only at h2
  split at h2
  · rename_i a
    obtain ⟨⟨r2, e2⟩, h3, h4⟩ := bind_some_of h2
    dsimp only at h4
    split at h4
    · rename_i b
      split at h4
      · rename_i hz
        cases h4
        rw [Bool.and_eq_true] at hz
        refine ⟨C, G, own, ev, _, e1, R, h1, fun v G1 own1 H1 l1 R1 ok => ?_⟩
        have ok : Rp X.K G1 v (.str a) := ok
        cases ok
        refine ⟨⟨a, rfl⟩, C, G1, own1, e1, _, _, R1, h3, fun u G2 own2 H2 l2 R2 ok2 => ?_⟩
        have ok2 : Rp X.K G2 u (.str b) := ok2
        cases ok2
        refine ⟨a, b, rfl, rfl, by simpa using hz.1, by rw [sizeLine_eq]; exact unhide hz.2, fun p hp => ?_⟩
        obtain ⟨G3, l3, R3, ok3⟩ := R2.grow (.lst hp (RpA.strL _))
        exact k _ G3 own2 _ (l1.tr (l2.tr l3)) R3 ok3
      · cases h4
    · cases h4
  · cases h2
/-- list(d.items()), d a dict of one's own -/
def pairD (q : D × D) : D := .tuple [q.1, q.2]
def eItems (i : Nat) : FE := fun e => (dctAt i e).bind fun z => match z.1 with
  | false => some (.fl (z.2.map pairD), e)
  | _ => none
def eItemsF (F : FE) : FE := fun e => (F e).bind fun p => match p.1 with
  | .fd false kvs => some (.fl (kvs.map pairD), p.2)
  | _ => none
theorem kd_rp {K : PySem.W.Frag} {G : Hp} (k : Key) : Rp K G (kV k) (kd k) := by
  rcases k with k | k
  · exact .int k
  · exact .str k
/-- new pairs are laid, frozen -/
theorem items_rep {K : PySem.W.Frag} {C : Cn} {G H H' : Hp} {own : Nat → Option Addr} {e : EE} {σ : L2.St} (R : Rep K C G own e σ H) {l : List (Key × V)} {ds : List D} (ra : RpA K G (l.map (·.2)) ds) {p : Addr} {ts : List Addr}
    (k : Le H H') (hp : H p = none) (ht : ∀ t ∈ ts, H t = none) (hn : p ∉ ts) (hl : H' p = some (.lst (ts.map V.ref))) (pr : Paired (fun (t : Addr) (q : Key × V) => H' t = some (.tup [kV q.1, q.2])) ts l) :
    ∃ G', Le G G' ∧ Rep K C G' own e σ H' ∧ RsOk K C G' own H' (.ref p) (.fl (((l.map fun q => kd q.1).zip ds).map pairD)) := by
  have gp : G p = none := R.gnone hp
  let G' : Hp := fun b => if b ∈ ts then H' b else G b
  have lG : Le G G' := fun b o hb => by
    show (if b ∈ ts then H' b else G b) = _
    by_cases z : b ∈ ts
    · rw [R.gnone (ht b z)] at hb; cases hb
    · rw [if_neg z]; exact hb
  have lH : Le G' H' := fun b o hb => by
    have hb : (if b ∈ ts then H' b else G b) = some o := hb
    by_cases z : b ∈ ts
    · rw [if_pos z] at hb; exact hb
    · rw [if_neg z] at hb; exact k _ _ (R.sub _ _ hb)
  have nG : NewG G G' H := fun b hb => by
    by_cases z : b ∈ ts
    · exact .inr (ht b z)
    · refine .inl ?_
      have hb : (if b ∈ ts then H' b else G b) ≠ none := hb
      rw [if_neg z] at hb; exact hb
  have gp' : G' p = none := by
    show (if p ∈ ts then H' p else G p) = none
    rw [if_neg hn]; exact gp
  have items : ∀ {ts' : List Addr} {l' : List (Key × V)} {ds' : List D}, (∀ t ∈ ts', t ∈ ts) → Paired (fun (t : Addr) (q : Key × V) => H' t = some (.tup [kV q.1, q.2])) ts' l' → RpA K G (l'.map (·.2)) ds' → RpA K G' (ts'.map V.ref) (((l'.map fun q => kd q.1).zip ds').map pairD) := by
    intro ts' l' ds' hsub pr
    induction pr generalizing ds' with
    | nil => intro r; cases r; exact .nil
    | @cons t q ts'' l'' h1 _ ih =>
      intro r
      cases r with
      | cons r1 r2 =>
        refine .cons (.tup (vs := [kV q.1, q.2]) ?_ (.cons (kd_rp q.1) (.cons (r1.mono lG) .nil))) (ih (fun t ht => hsub t (List.mem_cons_of_mem _ ht)) r2)
        show (if t ∈ ts then H' t else G t) = _
        rw [if_pos (hsub t List.mem_cons_self)]; exact h1
  obtain ⟨R', ok⟩ := R.after (v := .ref p) (r := .fl (((l.map fun q => kd q.1).zip ds).map pairD)) lG lH nG k ⟨p, ts.map V.ref, rfl, hl, items (fun _ h => h) pr ra, gp', hp⟩
  exact ⟨G', lG, R', ok⟩
theorem ed_items {i : Nat} (hc : X.calm = true) (he : PE X e (tVar i)) (hg : Gl X "list") (hm : X.mg "list" = none) (hv : bootBuiltins "list" = some (.type "list")) (hbase : attributeBase e "items" X.env (eval e X.env) = eval e X.env := by rfl) (hline : (apos.endLine == cpos.line) = true := by rfl)
    (hs : starEach [.Call (.Attribute e "items" apos) [] [] cpos] X.env = (false, eval (.Call (.Attribute e "items" apos) [] [] cpos) X.env) :: starEach [] X.env := by rfl) :
    ED X (.Call (.Name "list" p) [.Call (.Attribute e "items" apos) [] [] cpos] [] pos) (eItems i) := by
  refine peImp (LiI.pe_listItems hc he hg hm hv hbase hline hs) fun σ H Q w => ?_
  obtain ⟨C, G, own, ev, r, e', R, hf, k⟩ := w
  obtain ⟨⟨b, kvs⟩, h1, h2⟩ := bind_some_of hf
  dsimp only at h2
  split at h2
  · cases h2
    obtain ⟨a, y1, y2, y3, _⟩ := R.dct (dctAt_some h1)
    obtain ⟨l, ds, x1, x2, rfl, x3⟩ := y3.k
    refine ⟨_, y1, a, l, rfl, x1, fun H' p ts kk hp ht hn hl pr => ?_⟩
    obtain ⟨G', lG, R', ok⟩ := items_rep R x2 kk hp ht hn hl pr
    exact k _ G' own H' lG R' ok
  · cases h2
theorem ed_itemsF {F : FE} (hc : X.calm = true) (he : ED X e F) (hg : Gl X "list") (hm : X.mg "list" = none) (hv : bootBuiltins "list" = some (.type "list")) (hbase : attributeBase e "items" X.env (eval e X.env) = eval e X.env := by rfl) (hline : (apos.endLine == cpos.line) = true := by rfl)
    (hs : starEach [.Call (.Attribute e "items" apos) [] [] cpos] X.env = (false, eval (.Call (.Attribute e "items" apos) [] [] cpos) X.env) :: starEach [] X.env := by rfl) :
    ED X (.Call (.Name "list" p) [.Call (.Attribute e "items" apos) [] [] cpos] [] pos) (eItemsF F) := by
  refine peImp (LiI.pe_listItems hc he hg hm hv hbase hline hs) fun σ H Q w => ?_
  obtain ⟨C, G, own, ev, r, e', R, hf, k⟩ := w
  obtain ⟨⟨r1, e1⟩, h1, h2⟩ := bind_some_of hf
  dsimp only at h2
  split at h2
  · rename_i kvs
    cases h2
    refine ⟨C, G, own, ev, _, _, R, h1, fun v G1 own1 H1 l1 R1 ok => ?_⟩
    obtain ⟨a, rfl, o1, _⟩ := ok
    obtain ⟨l, ds, x1, x2, rfl, x3⟩ := o1.k
    refine ⟨a, l, rfl, x1, fun H' p ts kk hp ht hn hl pr => ?_⟩
    obtain ⟨G', lG, R', ok⟩ := items_rep R1 x2 kk hp ht hn hl pr
    exact k _ G' own1 H' (l1.tr lG) R' ok
  · cases h2
end
end EL
/-! EL17: enumerate over lists and tuples; zip. -/
namespace EL
open PySem PySem.Spec PyProof.Rows L2
open AutoSeq1 (wpAny_loadPart')
def tupIt (t : Addr) : Obj := { cls := .type "tuple_iterator", data := .fields #[.ref t, .int 0 0] }
def enumOb (it : Addr) : Obj := { cls := .type "enumerate", data := .fields #[.none, .bool false, .ref it, rawInt 0, .none, .none] }
theorem new_enumT (t : Addr) (items : Array Value) (n : Nat) (dct : Option Addr) (sl : Array (Option Value)) :
    Meets (Builtin.«enumerate.__new__» ⟨[.type "enumerate", .ref t], []⟩) (fun _ R s => s.heap.get? t = some { cls := .type "tuple", dict := dct, data := .seq items n, slots := sl } ∧
      R (.ok (.ret (.ref (s.heap.push (tupIt t)).objs.size))) { s with heap := (s.heap.push (tupIt t)).push (enumOb s.heap.objs.size) }) :=
  .of_wp fun prog w A R s h => by
    obtain ⟨hp, g, d, tk, os⟩ := s; obtain ⟨ht, h⟩ := h
    have known := sub_enumerate
    have hT : Heap.IsTuple (Shared.heap ⟨hp, g, d, tk, os⟩) t items := ⟨_, ht, rfl, n, rfl⟩
    wp_walk using wpAny_loadPart' ht
    refine wpAny_stack_any fun st => wpAny_pure ?_
    split
    · rename_i c _ _ _ _ _
      cases (c == Value.type "enumerate")
      · wp_walk using wpAny_loadPart' ht, wpAny_pyIter_tuple hT
        exact ⟨_, rfl, h⟩
      · wp_walk using wpAny_loadPart' ht, wpAny_pyIter_tuple hT
        exact ⟨_, rfl, h⟩
    · wp_walk using wpAny_loadPart' ht, wpAny_pyIter_tuple hT
      exact ⟨_, rfl, h⟩
section
variable {prog : Program} {w : World} {A : Around} {E : Value → Shared → Prop} {s : Shared}
theorem call_enumT {t : Addr} {items : Array Value} {Q : Value → Shared → Prop} (hT : s.heap.IsTuple t items)
    (h : ∀ h', IsEnum h' (s.heap.objs.size + 1) s.heap.objs.size 0 .none → h'.IsTupleIter s.heap.objs.size t 0 → h'.objs.size = s.heap.objs.size + 2 →
      (∀ b o, s.heap.get? b = some o → h'.get? b = some o) → Q (.ref (s.heap.objs.size + 1)) { s with heap := h' }) :
    wpAny (model prog w) A (call (.type "enumerate") [.ref t]) Q E s := by
  obtain ⟨⟨c, dct, dt, sl⟩, ht, hc, n, hd⟩ := hT
  obtain rfl : c = .type "tuple" := hc
  obtain rfl : dt = .seq items n := hd
  refine callType_new F.called_enumerate (by decide) (F.typeCall_enumerate_1 _) (F.newCall_enumerate_1 _) (fun obj => F.args_object_init_2 obj _) F.entry_enumerate_new
    (new_enumT t items n dct sl) ⟨ht, ?_⟩
  have z1 : (s.heap.push (tupIt t)).objs.size = s.heap.objs.size + 1 := Heap.size_push ..
  show _ ∧ _
  rw [z1]
  have he : IsEnum ((s.heap.push (tupIt t)).push (enumOb s.heap.objs.size)) (s.heap.objs.size + 1) s.heap.objs.size 0 .none := by
    have q := Heap.get?_push_size (s.heap.push (tupIt t)) (o := enumOb s.heap.objs.size) rfl
    rw [z1] at q; exact q
  exact ⟨⟨_, he, rfl⟩, h _ he ⟨_, Heap.get?_push_of_some _ (Heap.get?_push_size _ rfl), rfl, rfl⟩ (by rw [Heap.size_push, z1]) fun b o x => Heap.get?_push_of_some _ (Heap.get?_push_of_some _ x)⟩
/-- a tuple's iterator draws its items -/
theorem draws_tup (hh : A.handled = none) {it t : Addr} {items : Array Value} (hne : t ≠ it) :
    Draws prog w A it [it, t] items.size (fun i x => items[i]? = some x) (fun i h => h.IsTupleIter it t i ∧ h.IsTuple t items) where
  live := fun i h st => by obtain ⟨⟨o, ho, _⟩, _⟩ := st; exact ⟨o, ho⟩
  frame := fun i h h' st k => by
    obtain ⟨hi, o, ho, r⟩ := st
    exact ⟨hi.at fun o q => k it (by simp) o q, o, k t (by simp) o ho, r⟩
  item := fun i s Q E hi st hQ => by
    obtain ⟨hit, ht⟩ := st
    refine RZ.nextOf_tuple_item hit ht (x := items[i]) (by simp [hi]) fun h' hit' sb => ?_
    refine hQ _ h' s.toks (by simp [hi]) ⟨hit', ?_⟩ sb
    obtain ⟨o, ho, r⟩ := ht
    exact ⟨o, (sb.2 t hne).trans ho, r⟩
  done := fun s Q E st hE => by
    obtain ⟨hit, ht⟩ := st
    exact RZ.nextOf_tuple_end hh hit ht (by simp) hE
end
section
variable {prog : Program} {w : World} {A : Around} {E : Value → Shared → Prop} {s : Shared}
theorem enumT_end {en it t : Addr} {i : Nat} {items : Array Value} {old : Value} {Q : Option Value → Shared → Prop} (hh : A.handled = none) (hen : IsEnum s.heap en it i old) (hit : s.heap.IsTupleIter it t i) (ht : s.heap.IsTuple t items) (hx : items[i]? = none)
    (hQ : ∀ g, Heap.ExtBut it s.heap g → Q none { s with heap := g }) : wpAny (model prog w) A (pyNext (.ref en)) Q E s := by
  have ty : s.TypeIs (.ref en) "enumerate" := ⟨_, hen, rfl⟩
  unfold pyNext
  refine wpAny_bind (wpAny_attempt (wpAny_callSpecial?_slot (name := Str.ofString "__next__") ty F.slot_enumerate_next
    (wpAny_call_entry F.slot_enumerate_next ty F.entry_enumerate_next ?_ (F.args_enumerate_next_1 _))))
  show wpAny _ _ (field (.ref en) 2 >>= _) _ _ _
  refine wpAny_bind (wpAny_field hen rfl (x := .ref it) rfl ?_)
  refine wpAny_bind (RZ.nextOf_tuple_end hh hit ht hx fun g x ex ⟨o, ho, hc⟩ => ?_)
  exact wpAny_bind (wpAny_isInstance (T := "StopIteration") (b := true) ⟨o, ho, hc⟩ isSubtype_stop (wpAny_pure (hQ _ ex)))
end
def IteT (K : PySem.W.Frag) (a : Addr) : It :=
  ⟨fun i H => ∃ (xs : List V) (x : V), SqT K H a xs ∧ xs[i]? = some x, fun i H v H' => ∃ T x, v = .ref T ∧ H T = none ∧ H' = upd H T (.tup [.int (i : Nat), x]) ∧ ∀ xs, SqT K H a xs → xs[i]? = some x, fun i H => ∃ xs : List V, SqT K H a xs ∧ xs.length ≤ i⟩
theorem turn_enumT {P : Program} {w : World} {K : PySem.W.Frag} {elts : List Expr} {kk : Nat} {tpos : Pos} (a e it : Addr) :
    Turn P w K (.Tuple elts kk tpos) (IteT K a) [e, it] e (fun i h => (∃ old, IsEnum h e it ((i : Nat) : Int) old) ∧ h.IsTupleIter it a i ∧ e ≠ it ∧ a ≠ it ∧ a ≠ e) where
  mem := by simp
  obj := fun i h st b hb => by
    obtain ⟨⟨old, he⟩, ⟨o, ho, hc, hd⟩, _⟩ := st
    rcases (show b = e ∨ b = it by simpa using hb) with z | z
    · rw [z]; exact ⟨_, he, fun v q => nomatch q⟩
    · rw [z]; exact ⟨o, ho, fun v q => by rw [hd] at q; cases q⟩
  keep := fun i h h' st k => let ⟨⟨old, he⟩, hi, hn⟩ := st; ⟨⟨old, k e (by simp) _ he⟩, hi.at fun o q => k it (by simp) o q, hn⟩
  item := by
    intro X hP hw hK hc i pins s σ H E I hf st hg
    subst hP hw hK
    obtain ⟨⟨old, he⟩, hit, hne, hai, hae⟩ := st
    obtain ⟨xs, x, hq, hx⟩ := hg
    obtain ⟨its, rv, p, hz⟩ := I.tuple hq
    obtain ⟨u, hu, ru⟩ := rv.get hx
    have hel : e < s.heap.objs.size := Heap.lt_size he
    have hil : it < s.heap.objs.size := by obtain ⟨_, q, _⟩ := hit; exact Heap.lt_size q
    have D := draws_tup (prog := X.prog) (w := X.w) (A := X.A.in1) (I.ok.hd hc) (it := it) (t := a) (items := its.toArray) hai
    have hlt : i < its.toArray.size := by
      have := (List.getElem?_eq_some_iff.mp hu).1
      simpa using this
    refine wpAny_pyNext_enum_itemD D he ⟨hit, p⟩ hlt hne (by simp [hne, Ne.symm hae]) fun y h' tk hy ho st' hT hsz hk => ?_
    have ey : y = u := by
      have hy' : its[i]? = some y := by simpa using hy
      rw [hu] at hy'; exact (Option.some.inj hy').symm
    subst ey
    refine ⟨_, rfl, wpAny_letOwnedTupleGo_enum (s := { s with heap := h', toks := tk + 1 }) ho fun h'' he' sb => ?_⟩
    have hT2 : h''.get? s.heap.objs.size = some { cls := .type "tuple", data := .seq #[.int i tk, y] } := (sb.2 _ (Nat.ne_of_gt hel)).trans hT
    have new : ObjOk X.prog X.w (upd H s.heap.objs.size (.tup [.int (i : Nat), x])) h'' s.heap.objs.size (.tup [.int (i : Nat), x]) :=
      ⟨by show 2 ≤ sizeLine; decide, [.int i tk, y], .cons ⟨_, rfl⟩ (.cons ru .nil), ⟨_, hT2, rfl, _, rfl⟩⟩
    have I1 : Inv X pins σ (upd H s.heap.objs.size (.tup [.int (i : Nat), x])) { s with heap := h'', toks := tk + 1 } :=
      I.turnedNew (ch := [e, it]) (fun b ob hb q => (sb.2 b (fun z => hb (by simp [z]))).trans (hk b ob (fun z => hb (by simp [z])) (fun z => hb (by simp [z])) q)) hf (Nat.le_refl _) new
    refine ⟨.ref s.heap.objs.size, _, I1, rfl, ⟨_, x, rfl, I.hok.fresh (Nat.le_refl _), rfl, fun ys hy => by rw [I.tuple_inj hy hq]; exact hx⟩, ⟨⟨y, ?_⟩, st'.1.at fun o q => (sb.2 it (Ne.symm hne)).trans q, hne, hai, hae⟩, fun b hb => ?_⟩
    · rw [show ((i + 1 : Nat) : Int) = (i : Int) + 1 by omega]; exact he'
    · have hb' : b < s.heap.objs.size := by
        rcases (show b = e ∨ b = it by simpa using hb) with z | z
        · rw [z]; exact hel
        · rw [z]; exact hil
      rw [upd_ne (Nat.ne_of_lt hb')]
      exact (hf b hb).1
  done := by
    intro X hP hw hK hc i pins s σ H E I hf st hg
    subst hP hw hK
    obtain ⟨⟨old, he⟩, hit, hne, hai, hae⟩ := st
    obtain ⟨xs, hq, hx⟩ := hg
    obtain ⟨its, rv, p, hz⟩ := I.tuple hq
    obtain ⟨f0, f1, f2, f3, f4, f5⟩ := hf it (by simp)
    have hl := rv.length
    exact enumT_end (I.ok.hd hc) he hit p (by simp; omega) fun g ex => ⟨rfl, I.turned (t' := s.toks) (fun b o hb q => ex b o hb q) f0 f1 f3 f4 f5⟩
  self := fun A i s Q E st h => let ⟨⟨_, he⟩, _⟩ := st; wpAny_pyIter_enum he h

variable [KC]
def iEnumA (K : PySem.W.Frag) (ta : TA) : TI := fun σ H R => ta σ H fun vs H1 => ∃ a xs, vs = [.ref a] ∧ ((SqL K H1 a xs ∧ R (Ite K a) H1) ∨ (SqT K H1 a xs ∧ R (IteT K a) H1))
theorem pi_enumA {X : Cx} {e : Expr} {ta : TA} {p pos tpos : Pos} {elts : List Expr} {kk : Nat} (hg : Gl X "enumerate") (hm : X.mg "enumerate" = none) (ha : PA X [e] ta) (hs : starEach [e] X.env = [(false, eval e X.env)] := by rfl) :
    PI X (.Tuple elts kk tpos) (.Call (.Name "enumerate" p) [e] [] pos) (iEnumA X.K ta) := by
  refine ⟨fun pins s σ H R I h => ?_⟩
  refine Call_ (ld_blt I hg hm boot_enumerate (PyProof.Rows.callWith_type1 (thn (ha.run pos pins s σ H _ I h) fun us s1 ⟨vs, H1, I1, r1, q1⟩ => ?_) hs rfl))
  obtain ⟨a, xs, ex, q1⟩ := q1
  subst ex
  cases r1 with
  | cons r rr =>
    cases rr
    cases r
    have fresh : ∀ b, b ∈ [s1.heap.objs.size + 1, s1.heap.objs.size] → FpOk X pins H1 b := fun b hb => by
      have hle : s1.heap.objs.size ≤ b := by
        rcases (show b = s1.heap.objs.size + 1 ∨ b = s1.heap.objs.size by simpa using hb) with z | z <;> omega
      exact I1.fpOk hle (I1.hok.fresh hle)
    rcases q1 with ⟨hq, q⟩ | ⟨hq, q⟩
    · obtain ⟨its, rv, pl, hz⟩ := I1.list hq
      refine call_enumerate_list pl.isList fun g he hit hsz hk => wpAny_pyIter_enum he ?_
      exact ⟨s1.heap.objs.size + 1, [s1.heap.objs.size + 1, s1.heap.objs.size], _, _, H1, rfl, I1.kept (t' := s1.toks) hk, turn_enum a (s1.heap.objs.size + 1) s1.heap.objs.size, ⟨⟨.none, he⟩, hit, Nat.succ_ne_self _⟩, fresh, q⟩
    · obtain ⟨its, rv, pl, hz⟩ := I1.tuple hq
      have hlt : a < s1.heap.objs.size := by obtain ⟨o, ho, _⟩ := id pl; exact Heap.lt_size ho
      refine call_enumT (show s1.heap.IsTuple a its.toArray from pl) fun g he hit hsz hk => wpAny_pyIter_enum he ?_
      exact ⟨s1.heap.objs.size + 1, [s1.heap.objs.size + 1, s1.heap.objs.size], _, _, H1, rfl, I1.kept (t' := s1.toks) hk, turn_enumT a (s1.heap.objs.size + 1) s1.heap.objs.size, ⟨⟨.none, he⟩, hit, Nat.succ_ne_self _, Nat.ne_of_lt hlt, Nat.ne_of_lt (Nat.lt_succ_of_lt hlt)⟩, fresh, q⟩
/-- the pairs of enumerate -/
def enumD : Nat → List D → List D
  | _, [] => []
  | n, d :: ds => .tuple [.int n, d] :: enumD (n + 1) ds
theorem enumD_get : ∀ (ds : List D) (n i : Nat), (enumD n ds)[i]? = (ds[i]?).map fun d => .tuple [.int ((n + i : Nat) : Int), d]
  | [], n, i => by simp [enumD]
  | d :: ds, n, 0 => by simp [enumD]
  | d :: ds, n, i + 1 => by
    have := enumD_get ds (n + 1) i
    simp only [enumD, List.getElem?_cons_succ, this]
    congr 1
    funext d
    rw [show n + 1 + i = n + (i + 1) by omega]
theorem enumD_len : ∀ (ds : List D) (n : Nat), (enumD n ds).length = ds.length
  | [], _ => rfl
  | d :: ds, n => by simp [enumD, enumD_len ds]
def iEnumD (A : FA) : FA := fun e => (A e).bind fun p => match p.1 with
  | [d] => (seqD d).bind fun ds => some (enumD 0 ds, p.2)
  | _ => none
theorem enum_go {K : PySem.W.Frag} {G G2 H2 : Hp} {vs : List V} {ds : List D} (r : RpA K G vs ds) (l1 : Le G G2) {i : Nat} {d : D} (hd : (enumD 0 ds)[i]? = some d) :
    ∃ x v, ds[i]? = some x ∧ vs[i]? = some v ∧ Rp K G v x ∧ d = .tuple [.int i, x] ∧ ∀ T, H2 T = none → Grow K G2 H2 (.ref T) (.val d) (upd H2 T (.tup [.int (i : Nat), v])) := by
  rw [enumD_get] at hd
  cases hx : ds[i]? with
  | none => rw [hx] at hd; cases hd
  | some x =>
    rw [hx] at hd
    obtain ⟨v, hv, rv⟩ := r.get hx
    have e : d = .tuple [.int i, x] := by
      have := Option.some.inj hd
      rw [← this]; simp
    subst e
    exact ⟨x, v, rfl, hv, rv, rfl, fun T hT => .tup hT (.cons (.int _) (.cons (rv.mono l1) .nil))⟩
theorem it_enumL {K : PySem.W.Frag} {G : Hp} {a : Addr} {vs : List V} {ds : List D} (h : SqL K G a vs) (r : RpA K G vs ds) : ItOk K G (Ite K a) (enumD 0 ds) where
  go := fun G2 H2 i d l1 l2 hd => by
    obtain ⟨x, v, hx, hv, rv, rfl, gr⟩ := enum_go (H2 := H2) r l1 hd
    refine ⟨⟨vs, v, sqL_mono (l1.tr l2) h, hv⟩, fun y H3 hy => ?_⟩
    obtain ⟨T, w, rfl, hT, rfl, hw⟩ := hy
    have := hw vs (sqL_mono (l1.tr l2) h)
    rw [hv] at this; cases this
    exact gr T hT
  stop := fun G2 H2 l1 l2 => ⟨vs, sqL_mono (l1.tr l2) h, by rw [r.length, enumD_len]; exact Nat.le_refl _⟩
theorem it_enumT {K : PySem.W.Frag} {G : Hp} {a : Addr} {vs : List V} {ds : List D} (h : SqT K G a vs) (r : RpA K G vs ds) : ItOk K G (IteT K a) (enumD 0 ds) where
  go := fun G2 H2 i d l1 l2 hd => by
    obtain ⟨x, v, hx, hv, rv, rfl, gr⟩ := enum_go (H2 := H2) r l1 hd
    refine ⟨⟨vs, v, sqT_mono (l1.tr l2) h, hv⟩, fun y H3 hy => ?_⟩
    obtain ⟨T, w, rfl, hT, rfl, hw⟩ := hy
    have := hw vs (sqT_mono (l1.tr l2) h)
    rw [hv] at this; cases this
    exact gr T hT
  stop := fun G2 H2 l1 l2 => ⟨vs, sqT_mono (l1.tr l2) h, by rw [r.length, enumD_len]; exact Nat.le_refl _⟩
theorem id_enum {X : Cx} {e : Expr} {A : FA} {p pos tpos : Pos} {elts : List Expr} {kk : Nat} (hg : Gl X "enumerate") (hm : X.mg "enumerate" = none) (ha : PA X [e] (tA X.K A)) (hs : starEach [e] X.env = [(false, eval e X.env)] := by rfl) :
    ID X (.Tuple elts kk tpos) (.Call (.Name "enumerate" p) [e] [] pos) (iEnumD A) := by
  refine ⟨fun pins s σ H Q I w => ?_⟩
  obtain ⟨C, G, own, ev, ds, e', R, hf, k⟩ := w
  obtain ⟨⟨as, e1⟩, q1, q2⟩ := bind_some_of hf
  dsimp only at q2
  split at q2
  · rename_i d
    obtain ⟨xs, q3, q4⟩ := bind_some_of q2
    cases q4
    refine (pi_enumA hg hm ha hs).run pins s σ H Q I ⟨C, G, own, ev, _, _, R, q1, fun vs G1 own1 H1 l1 R1 ra => ?_⟩
    cases ra with
    | cons r1 r2 =>
      cases r2
      cases d with
      | list ys =>
        cases q3
        cases r1 with
        | lst hh rr => exact ⟨_, _, rfl, .inl ⟨.of (R1.sub _ _ hh), k _ G1 own1 H1 l1 R1 (it_enumL (.of hh) rr)⟩⟩
      | tuple ys =>
        cases q3
        obtain ⟨a, rfl⟩ := r1.isRef
        obtain ⟨ws, hs2, rr⟩ := r1.sqT
        exact ⟨a, ws, rfl, .inr ⟨sqT_mono R1.sub hs2, k _ G1 own1 H1 l1 R1 (it_enumT hs2 rr)⟩⟩
      | _ => cases q3
  · cases q2
end EL
/-! EL18: len of a dict; the top's tuples of texts; numbers and texts of the top by their facts. -/
namespace EL
open PySem PySem.Spec PyProof.Rows L2
variable [KC]
theorem Rr.dictAny {K : PySem.W.Frag} {G H : Hp} {v : V} {kvs : List (D × D)} (l : Le G H) (h : Rr K G H v (.dict kvs)) : ∃ p b, v = .ref p ∧ OdOk K G H p b kvs := by
  generalize hd : PyData.dict kvs = d at h
  cases h with
  | frz h =>
    cases h with
    | @dk a l' ds h r => cases hd; exact ⟨a, false, rfl, .inl ⟨rfl, l', ds, l _ _ h, r, rfl⟩⟩
    | @dt a l' ds h r => cases hd; exact ⟨a, true, rfl, .inr ⟨rfl, l', ds, l _ _ h, r, rfl⟩⟩
    | _ => cases hd
  | lst h r => cases hd
  | dic h => cases hd; exact ⟨_, _, rfl, h⟩
def gLenD : List D → Option Rs
  | [.dict kvs] => some (.val (.int kvs.length))
  | ds => gLen ds
theorem c_lenD {X : Cx} : CallD X (.builtin "len") gLenD := by
  intro pins s σ H xs us Q I rs h
  obtain ⟨G, ds, r, sub, hx, hg, k⟩ := h
  unfold gLenD at hg
  split at hg
  · cases hg
    obtain ⟨x, rfl, h0⟩ := hx.one
    obtain ⟨p, b, e0, h3⟩ := h0.dictAny sub
    clear hx h0
    subst e0
    rcases h3 with ⟨eb, l, es, h1, h2, ek⟩ | ⟨eb, l, es, h1, h2, ek⟩ <;> subst ek
    · have ln : l.length = es.length := by have := h2.length; simpa using this
      refine call_lenD pins s σ H _ us Q I rs ⟨p, l, rfl, h1, ?_⟩
      have : ((l.map fun q => kd q.1).zip es).length = l.length := by simp [ln]
      rw [this] at k
      exact k _ _ (.same (.int _))
    · have ln : l.length = es.length := by have := h2.length; simpa using this
      refine call_len_dT pins s σ H _ us Q I rs ⟨p, l, rfl, h1, ?_⟩
      have : ((l.map fun q => PyData.tuple (q.1.map kd)).zip es).length = l.length := by simp [ln]
      rw [this] at k
      exact k _ _ (.same (.int _))
  · exact c_len pins s σ H xs us Q I rs ⟨G, ds, r, sub, hx, hg, k⟩

/-- a tuple of texts that the top has written -/
def KonS (K : PySem.W.Frag) (mg : Str → Option Value) (x : Str) (zs : List Str) : Prop :=
  ∃ a, mg x = some (.ref a) ∧ SqT K (fun _ => none) a (zs.map V.str)
theorem konS_of {K : PySem.W.Frag} {mg : Str → Option Value} {x : Str} {zs : List Str} {a : Addr} {od : Option Addr} {its : Array Value} {n : Nat} {sl : Array (Option Value)} (hm : mg x = some (.ref a))
    (hl : K.lookup a = some ⟨.type "tuple", od, .seq its n, sl⟩) (hz : its.size ≤ 60000) (hv : its.toList.map (fun u => match u with
      | .str z _ => some z
      | _ => none) = zs.map some) : KonS K mg x zs := by
  refine ⟨a, hm, .inr ⟨_, its, n, hl, rfl, rfl, by rw [sizeLine_eq]; omega, ?_⟩⟩
  generalize its.toList = us at hv
  clear hz hl
  induction us generalizing zs with
  | nil => cases zs with
    | nil => exact .nil
    | cons z zs => cases hv
  | cons u us ih => cases zs with
    | nil => cases hv
    | cons z zs =>
      simp only [List.map_cons, List.cons.injEq] at hv
      obtain ⟨h1, h2⟩ := hv
      refine .cons ?_ (ih h2)
      cases u with
      | str y t => cases h1; exact ⟨t, rfl⟩
      | _ => cases h1
theorem ed_gkon {X : Cx} {x : Str} {pos : Pos} {zs : List Str} (hg : Gl X x) (hm : KonS X.K X.mg x zs) (hk : KC.kc (.tuple (zs.map PyData.str)) = true) (hd : (x == ("__debug__" : Str)) = false := by decide) :
    ED X (.Name x pos) (fC (.tuple (zs.map PyData.str))) := by
  obtain ⟨a, h1, h2⟩ := hm
  exact ed_glob (v := .ref a) hg h1 rfl (.kon h2 (RpA.strL _) hk) hd
end EL
/-! EL19: readings that leave all as it is: their values by small rules. -/
namespace EL
open PySem PySem.Spec PyProof.Rows L2
variable [KC]
abbrev VE (F : FE) (e : EE) (r : Rs) : Prop := F e = some (r, e)
abbrev OO (A : FO) (e : EE) (d : D) : Prop := ∃ t, A e = some (t, e) ∧ t e = some d
abbrev OOs (A : FOs) (e : EE) (ds : List D) : Prop := ∃ t, A e = some (t, e) ∧ t e = some ds
abbrev AA (A : FA) (e : EE) (ds : List D) : Prop := A e = some (ds, e)
abbrev TT (T : FT) (e : EE) (b : Bool) : Prop := T e = some (b, e)
abbrev PP (L : FP) (e : EE) (l : Option Int) : Prop := L e = some (l, e)
abbrev RT (B : FS) (e : EE) (r : Rs) : Prop := ∃ e', B e = some (.rt r, e')
section
variable {F G : FE} {A B C : FO} {As : FOs} {Bs : FA} {T U : FT} {e : EE} {r r1 r2 : Rs} {d x y z : D} {ds : List D} {i : Nat} {a b c : Bool}
theorem vC : VE (fC d) e (.val d) := rfl
theorem vVar (h : e.r[i]? = some (some (.val d))) : VE (fVar i) e (.val d) := by unfold VE fVar; rw [h]
theorem oVar' {w : Ent} (h : e.r[i]? = some (some w)) (hx : w.d = some d) : OO (oVar i) e d := by
  have hr : rd i e = some d := by unfold rd; rw [h]; exact hx
  exact ⟨rd i, by unfold oVar; rw [hr]; rfl, hr⟩
theorem oVal' (h : VE F e r) : OO (oVal F) e r.d := ⟨fun _ => some r.d, by unfold oVal; rw [h]; rfl, rfl⟩
theorem osN : OOs oNil e [] := ⟨_, rfl, rfl⟩
theorem osC (h : OO A e d) (k : OOs As e ds) : OOs (oCons A As) e (d :: ds) := by
  obtain ⟨t, h1, h2⟩ := h
  obtain ⟨u, k1, k2⟩ := k
  exact ⟨_, by unfold oCons; rw [h1, Option.bind_some]; dsimp only; rw [k1]; rfl, by dsimp only; rw [h2, Option.bind_some, k2]; rfl⟩
theorem asN : AA aNil e [] := rfl
theorem asC (h : VE F e r) (k : AA Bs e ds) : AA (aCons F Bs) e (r.d :: ds) := by unfold AA aCons; rw [h, Option.bind_some]; dsimp only; rw [k]; rfl
theorem vBin {g : D → D → Option Rs} (ha : OO A e x) (hb : OO B e y) (hg : g x y = some r) : VE (eBin g A B) e r := by
  obtain ⟨t, h1, h2⟩ := ha
  obtain ⟨u, k1, k2⟩ := hb
  unfold VE eBin
  rw [h1, Option.bind_some]; dsimp only
  rw [k1, Option.bind_some]; dsimp only
  rw [h2, Option.bind_some, k2, Option.bind_some, hg]; rfl
theorem vUn {g : D → Option Rs} (ha : OO A e x) (hg : g x = some r) : VE (eUn g A) e r := by
  obtain ⟨t, h1, h2⟩ := ha
  unfold VE eUn
  rw [h1, Option.bind_some]; dsimp only
  rw [h2, Option.bind_some, hg]; rfl
theorem vB {g : List D → Option Rs} (ha : OOs As e ds) (hg : g ds = some r) : VE (eB g As) e r := by
  obtain ⟨t, h1, h2⟩ := ha
  unfold VE eB
  rw [h1, Option.bind_some]; dsimp only
  rw [h2, Option.bind_some, hg]; rfl
theorem vTup (ha : AA Bs e ds) (hz : ds.length ≤ 16777216) : VE (eTup Bs) e (.val (.tuple ds)) := by
  unfold VE eTup
  rw [ha, Option.bind_some]; dsimp only
  rw [if_pos (small_le hz)]
theorem vLst (ha : AA Bs e ds) (hz : ds.length ≤ 16777216) : VE (eLst Bs) e (.fl ds) := by
  unfold VE eLst
  rw [ha, Option.bind_some]; dsimp only
  rw [if_pos (small_le hz)]
theorem vAnd (ha : VE F e (.val (.bool a))) (hb : a = true → VE G e (.val (.bool b))) : VE (eAnd F G) e (.val (.bool (a && b))) := by
  unfold VE eAnd
  rw [ha, Option.bind_some]
  cases a with
  | true => exact hb rfl
  | false => rfl
theorem vOr (ha : VE F e (.val (.bool a))) (hb : a = false → VE G e (.val (.bool b))) : VE (eOr F G) e (.val (.bool (a || b))) := by
  unfold VE eOr
  rw [ha, Option.bind_some]
  cases a with
  | false => exact hb rfl
  | true => rfl
theorem vNot (ha : VE F e (.val (.bool a))) : VE (eNot F) e (.val (.bool !a)) := by
  unfold VE eNot
  rw [ha, Option.bind_some]
theorem vIf (ht : TT T e c) (ha : c = true → VE F e r1) (hb : c = false → VE G e r2) : VE (eIf T F G) e (if c = true then r1 else r2) := by
  unfold VE eIf
  rw [ht, Option.bind_some]
  cases c with
  | true => exact ha rfl
  | false => exact hb rfl
theorem vChain {g g' : D → D → Option Rs} (ha : OO A e x) (hb : OO B e y) (hg : g x y = some (.val (.bool a))) (hc : OO C e z) (hg' : g' y z = some (.val (.bool b))) : VE (eChain g g' A B C) e (.val (.bool (a && b))) := by
  obtain ⟨t, h1, h2⟩ := ha
  obtain ⟨u, k1, k2⟩ := hb
  obtain ⟨v, l1, l2⟩ := hc
  unfold VE eChain
  rw [h1, Option.bind_some]; dsimp only
  rw [k1, Option.bind_some]; dsimp only
  rw [h2, Option.bind_some, k2, Option.bind_some, hg, Option.bind_some]
  cases a with
  | false => rfl
  | true => simp only [l1, l2, k2, hg', Option.bind_some, Bool.true_and]
theorem vInst {T : String} (ha : OO A e d) (hT : instT T = true) : VE (eInst A T) e (.val (.bool (instB T (tyD d)))) := by
  obtain ⟨t, h1, h2⟩ := ha
  unfold VE eInst
  rw [h1, Option.bind_some]; dsimp only
  rw [h2, Option.bind_some, if_pos hT]
theorem vCall {φ : List D → Option Rs} (ha : AA Bs e ds) (hf : φ ds = some r) : VE (eCall φ Bs) e r := by
  unfold VE eCall
  rw [ha, Option.bind_some, hf]; rfl
theorem ppN : PP pNo e none := rfl
theorem ppI {j : Int} (h : VE F e (.val (.int j))) : PP (pIn F) e (some j) := by unfold PP pIn; rw [h]; rfl
theorem vSl {L U : FP} {lo hi : Option Int} (ha : OO A e x) (hl : PP L e lo) (hu : PP U e hi) (hg : gSl x lo hi = some r) : VE (eSl A L U) e r := by
  obtain ⟨t, h1, h2⟩ := ha
  unfold VE eSl
  rw [h1, Option.bind_some]; dsimp only
  rw [hl, Option.bind_some]; dsimp only
  rw [hu, Option.bind_some]; dsimp only
  rw [h2, Option.bind_some, hg]; rfl
theorem tOf' (h : VE F e (.val (.bool b))) : TT (tOf F) e b := by unfold TT tOf; rw [h]; rfl
theorem tAnd' (ha : TT T e a) (hb : a = true → TT U e b) : TT (tAnd T U) e (a && b) := by
  unfold TT tAnd
  rw [ha, Option.bind_some]
  cases a with
  | true => exact hb rfl
  | false => rfl
theorem tOr' (ha : TT T e a) (hb : a = false → TT U e b) : TT (tOr T U) e (a || b) := by
  unfold TT tOr
  rw [ha, Option.bind_some]
  cases a with
  | false => exact hb rfl
  | true => rfl
theorem tNot' (ha : TT T e a) : TT (tNot T) e (!a) := by unfold TT tNot; rw [ha]; rfl
theorem rRet (h : VE F e r) : RT (sRet F) e r := ⟨e, by unfold sRet; rw [h]; rfl⟩
theorem rSet {S : FS} (h : VE F e r) (hi : i < e.r.length) (k : RT S (e.put i (some r.ent)) r2) : RT (bCons (sSet i F) S) e r2 := by
  obtain ⟨e', k⟩ := k
  exact ⟨e', by rw [bCons_nx (e1 := e.put i (some r.ent)) (by unfold sSet; rw [h, Option.bind_some]; dsimp only; rw [if_pos hi]), k]⟩
theorem rIf {S S' : FS} (ht : TT T e c) (ha : c = true → RT S e r1) (hb : c = false → RT S' e r2) : RT (bCons (sIf T S sNx) S') e (if c = true then r1 else r2) := by
  cases c with
  | true =>
    obtain ⟨e', h⟩ := ha rfl
    refine ⟨e', ?_⟩
    rw [bCons_rt (r := r1) (e1 := e') (by unfold sIf; rw [ht, Option.bind_some]; exact h)]; rfl
  | false =>
    obtain ⟨e', h⟩ := hb rfl
    refine ⟨e', ?_⟩
    rw [bCons_nx (e1 := e) (by unfold sIf; rw [ht]; rfl), h]; rfl
theorem runD_of {np nl : Nat} {S : FS} (hl : ds.length = np) (h : RT S ⟨args ds ++ List.replicate (nl - np) none, S0⟩ r) : runD np nl S ds = some r := by
  obtain ⟨e', h⟩ := h
  unfold runD
  rw [if_pos hl, h]; rfl
/-! ### comprehensions that only look, by their own slot -/
theorem put_none (h : e.r[i]? = some none) : e.put i none = e := by
  obtain ⟨r, S⟩ := e
  unfold EE.put
  have h : r[i]? = some none := h
  have hi : i < r.length := ltOf h
  have hg : r[i] = none := by rw [List.getElem?_eq_getElem hi] at h; exact Option.some.inj h
  congr 1
  apply List.ext_getElem (by simp)
  intro j h1 h2
  rw [List.getElem_set]
  split
  · rename_i hij; subst hij; rw [hg]
  · rfl
theorem put_put {p q : Option Ent} : (e.put i p).put i q = e.put i q := by unfold EE.put; simp [List.set_set]
theorem comp_look {I : FA} (m : D → Bool) (f : D → D) (hI : I e = some (ds, e)) (hi : e.r[i]? = some none) (hz : ds.length ≤ 16777216)
    (ht : ∀ d ∈ ds, T (e.put i (some (.val d))) = some (m d, e.put i (some (.val d))))
    (hF : ∀ d ∈ ds, m d = true → ∃ r, F (e.put i (some (.val d))) = some (r, e.put i (some (.val d))) ∧ r.d = f d) :
    VE (eComp [i] I (gN i) T F) e (.fl ((ds.filter m).map f)) := by
  have hl : i < e.r.length := ltOf hi
  have hw : wipeE e [i] = e := put_none hi
  unfold VE eComp
  rw [hI, Option.bind_some]
  dsimp only
  rw [hw, compL_pure m f ds (fun d hd => ⟨e.put i (some (.val d)), by unfold gN; rw [if_pos hl], e.put i (some (.val d)), ht d hd, fun hb => by
    obtain ⟨r, h1, h2⟩ := hF d hd hb
    exact ⟨r, _, h1, h2, by show ((e.put i _).put i none) = e; rw [put_put, put_none hi]⟩, fun _ => by show ((e.put i _).put i none) = e; rw [put_put, put_none hi]⟩)]
  rw [Option.bind_some]
  dsimp only
  rw [if_pos (small_le (by rw [List.length_map]; exact Nat.le_trans (List.length_filter_le _ _) hz))]
  have : restE e e [i] = e := by
    show e.put i (if ([] : List Nat).contains i = true then none else keepV e.r[i]?) = e
    rw [hi]
    exact put_none hi
  rw [this]
theorem bls_map (m : D → Bool) : ∀ ds : List D, blsD (ds.map fun d => .bool (m d)) = some (ds.map m)
  | [] => rfl
  | d :: ds => by simp [blsD, bls_map m ds]
theorem all_look {I : FA} (m : D → Bool) (hI : I e = some (ds, e)) (hi : e.r[i]? = some none) (hz : ds.length ≤ 16777216)
    (hF : ∀ d ∈ ds, VE F (e.put i (some (.val d))) (.val (.bool (m d)))) : VE (eB gAll (oCons (oVal (eComp [i] I (gN i) tYs F)) oNil)) e (.val (.bool (ds.all m))) := by
  refine vB (osC (oVal' (comp_look (fun _ => true) (fun d => .bool (m d)) hI hi hz (fun _ _ => rfl) (fun d hd _ => ⟨_, hF d hd, rfl⟩))) osN) ?_
  simp [Rs.d, gAll, bls_map]
end
/-! ### texts among texts -/
theorem in_strs (z : Str) (l : List Str) : ((l.map PyData.str).any fun x => PyData.eqv x (.str z)) = l.contains z := by
  induction l with
  | nil => rfl
  | cons a l ih => rw [List.map_cons, List.any_cons, ih, List.contains_cons]; simp [PyData.eqv, Bool.beq_comm]
theorem flat_strs (l : List Str) : (l.map PyData.str).all flatD = true := by simp [flatD]
section
variable (z : Str) (l : List Str)
theorem gIn_strs : gIn (.str z) (.tuple (l.map PyData.str)) = some (.val (.bool (l.contains z))) := by
  show (if (true && (l.map PyData.str).all flatD) = true then some (Rs.val (.bool ((l.map PyData.str).any fun x => PyData.eqv x (.str z)))) else none) = _
  rw [flat_strs, in_strs]; rfl
theorem gIn_strsL : gIn (.str z) (.list (l.map PyData.str)) = some (.val (.bool (l.contains z))) := by
  show (if (true && (l.map PyData.str).all flatD) = true then some (Rs.val (.bool ((l.map PyData.str).any fun x => PyData.eqv x (.str z)))) else _) = _
  rw [flat_strs, in_strs]; rfl
theorem gNin_strs : gNin (.str z) (.tuple (l.map PyData.str)) = some (.val (.bool (!l.contains z))) := by
  show (if (true && (l.map PyData.str).all flatD) = true then some (Rs.val (.bool (!(l.map PyData.str).any fun x => PyData.eqv x (.str z)))) else none) = _
  rw [flat_strs, in_strs]; rfl
theorem gNin_strsL : gNin (.str z) (.list (l.map PyData.str)) = some (.val (.bool (!l.contains z))) := by
  show (if (true && (l.map PyData.str).all flatD) = true then some (Rs.val (.bool (!(l.map PyData.str).any fun x => PyData.eqv x (.str z)))) else _) = _
  rw [flat_strs, in_strs]; rfl
end
end EL
/-! EL20: more small rules. -/
namespace EL
open PySem PySem.Spec PyProof.Rows L2
variable [KC]
theorem sh_int (i : Int) : SeqAt.shaped (.int i) = true := by simp [SeqAt.shaped, PyData.canLay0, PyData.depth]
theorem qEq_int (a b : Int) : qEq (.int a) (.int b) = some (.val (.bool (a == b))) := by
  show gEq (.int a) (.int b) = _
  unfold gEq
  rw [sh_int, sh_int]; rfl
theorem qEq_str (a b : Str) : qEq (.str a) (.str b) = some (.val (.bool (decide (a = b)))) := rfl
theorem lNe_int (a b : Int) : lNe (.int a) (.int b) = some (.val (.bool (!(a == b)))) := by
  show gNe (.int a) (.int b) = _
  unfold gNe
  rw [sh_int, sh_int]; rfl
theorem lNe_str (a b : Str) : lNe (.str a) (.str b) = some (.val (.bool (!decide (a = b)))) := rfl
theorem gIx_nat {ds : List D} {n : Nat} {d : D} (h : ds[n]? = some d) : gIx (.tuple ds) (.int (n : Int)) = some (.val d) := by
  have hn : n < ds.length := ltOf h
  have e : L2.atI ds (n : Int) = some d := by
    unfold L2.atI L2.ixN
    rw [if_pos (by omega), if_pos (by omega)]
    simpa using h
  show (L2.atI ds (n : Int)).bind (fun d => some (Rs.val d)) = _
  rw [e]; rfl
theorem gLen_tup (ds : List D) : gLenD [.tuple ds] = some (.val (.int ds.length)) := rfl
theorem gLen_lst (ds : List D) : gLenD [.list ds] = some (.val (.int ds.length)) := rfl
theorem gLen_dic (kvs : List (D × D)) : gLenD [.dict kvs] = some (.val (.int kvs.length)) := rfl
theorem gLe_int (a b : Int) : gLe (.int a) (.int b) = some (.val (.bool (decide (a ≤ b)))) := rfl
theorem gLt_int (a b : Int) : gLt (.int a) (.int b) = some (.val (.bool (decide (a < b)))) := rfl
theorem gGt_int (a b : Int) : gGt (.int a) (.int b) = some (.val (.bool (decide (b < a)))) := rfl
theorem gAdd_int (a b : Int) : gAdd (.int a) (.int b) = some (.val (.int (a + b))) := rfl
theorem gSub_int (a b : Int) : gSub (.int a) (.int b) = some (.val (.int (a - b))) := rfl
theorem gList_tup (ds : List D) : gList [.tuple ds] = some (.fl ds) := rfl
theorem gList_lst (ds : List D) : gList [.list ds] = some (.fl ds) := rfl
theorem gTuple_tup (ds : List D) : gTuple [.tuple ds] = some (.val (.tuple ds)) := rfl
theorem gTuple_lst (ds : List D) : gTuple [.list ds] = some (.val (.tuple ds)) := rfl
section
variable {F G : FE} {T U : FT} {e : EE} {r r1 r2 : Rs} {a b c : Bool} {S S' : FS}
theorem vAndF (ha : VE F e (.val (.bool a))) (h : a = false) : VE (eAnd F G) e (.val (.bool false)) := by subst h; unfold VE eAnd; rw [ha, Option.bind_some]
theorem vAndT (ha : VE F e (.val (.bool a))) (h : a = true) (hb : VE G e r) : VE (eAnd F G) e r := by subst h; unfold VE eAnd; rw [ha, Option.bind_some]; exact hb
theorem tAndF (ha : TT T e a) (h : a = false) : TT (tAnd T U) e false := by subst h; unfold TT tAnd; rw [ha, Option.bind_some]; rfl
theorem tAndT (ha : TT T e a) (h : a = true) (hb : TT U e b) : TT (tAnd T U) e b := by subst h; unfold TT tAnd; rw [ha, Option.bind_some]; exact hb
theorem tOrT (ha : TT T e a) (h : a = true) : TT (tOr T U) e true := by subst h; unfold TT tOr; rw [ha, Option.bind_some]; rfl
theorem tOrF (ha : TT T e a) (h : a = false) (hb : TT U e b) : TT (tOr T U) e b := by subst h; unfold TT tOr; rw [ha, Option.bind_some]; exact hb
theorem rIfT (ht : TT T e c) (h : c = true) (ha : RT S e r) : RT (bCons (sIf T S sNx) S') e r := by
  have := rIf (S := S) (S' := S') (r1 := r) (r2 := r) ht (fun _ => ha) (fun z => by rw [h] at z; cases z)
  rw [h] at this; exact this
theorem rIfF (ht : TT T e c) (h : c = false) (ha : RT S' e r) : RT (bCons (sIf T S sNx) S') e r := by
  have := rIf (S := S) (S' := S') (r1 := r) (r2 := r) ht (fun z => by rw [h] at z; cases z) (fun _ => ha)
  rw [h] at this; exact this
end
end EL
/-! EL21: readings that draw: the environment stays, the source goes on. -/
namespace EL
open PySem PySem.Spec PyProof.Rows L2
variable [KC]
/-- a block returns r and leaves the source at q -/
abbrev RS (B : FS) (e : EE) (r : Rs) (q : Src) : Prop := ∃ e', B e = some (.rt r, e') ∧ e'.S = q
section
variable {F : FE} {A : FA} {X Y : FO} {T : FT} {e e1 e2 : EE} {r r1 : Rs} {q : Src} {S S' : FS} {c : Bool} {i : Nat} {ds : List D} {x y : D}
theorem qIfT (ht : TT T e c) (h : c = true) (ha : RS S e r q) : RS (bCons (sIf T S sNx) S') e r q := by
  obtain ⟨e', h1, h2⟩ := ha
  subst h
  refine ⟨e', ?_, h2⟩
  rw [bCons_rt (r := r) (e1 := e') (by unfold sIf; rw [ht, Option.bind_some]; exact h1)]
theorem qIfF (ht : TT T e c) (h : c = false) (ha : RS S' e r q) : RS (bCons (sIf T S sNx) S') e r q := by
  obtain ⟨e', h1, h2⟩ := ha
  subst h
  refine ⟨e', ?_, h2⟩
  rw [bCons_nx (e1 := e) (by unfold sIf; rw [ht]; rfl), h1]
/-- the same where the test draws -/
theorem qIfTS (ht : T e = some (true, e1)) (ha : RS S e1 r q) : RS (bCons (sIf T S sNx) S') e r q := by
  obtain ⟨e', h1, h2⟩ := ha
  refine ⟨e', ?_, h2⟩
  rw [bCons_rt (r := r) (e1 := e') (by unfold sIf; rw [ht, Option.bind_some]; exact h1)]
theorem qIfFS (ht : T e = some (false, e1)) (ha : RS S' e1 r q) : RS (bCons (sIf T S sNx) S') e r q := by
  obtain ⟨e', h1, h2⟩ := ha
  refine ⟨e', ?_, h2⟩
  rw [bCons_nx (e1 := e1) (by unfold sIf; rw [ht]; rfl), h1]
theorem qSet (h : F e = some (r1, e1)) (hi : i < e1.r.length) (k : RS S (e1.put i (some r1.ent)) r q) : RS (bCons (sSet i F) S) e r q := by
  obtain ⟨e', h1, h2⟩ := k
  exact ⟨e', by rw [bCons_nx (e1 := e1.put i (some r1.ent)) (by unfold sSet; rw [h, Option.bind_some]; dsimp only; rw [if_pos hi]), h1], h2⟩
theorem qRet (h : F e = some (r, e1)) : RS (sRet F) e r e1.S := ⟨e1, by unfold sRet; rw [h]; rfl, rfl⟩
theorem asS (h : F e = some (r, e1)) (k : A e1 = some (ds, e2)) : aCons F A e = some (r.d :: ds, e2) := by unfold aCons; rw [h, Option.bind_some]; dsimp only; rw [k]; rfl
theorem callS {φ : List D → Src → Option (Rs × Src)} (hi : e.r[i]? = some (some .src)) (ha : A e = some (ds, e1)) (hf : φ ds e1.S = some (r, q)) : eCallS i φ A e = some (r, ⟨e1.r, q⟩) := by
  unfold eCallS
  rw [hi]
  dsimp only
  rw [ha, Option.bind_some]
  dsimp only
  rw [hf]; rfl
theorem tupS (ha : A e = some (ds, e1)) (hz : ds.length ≤ 16777216) : eTup A e = some (.val (.tuple ds), e1) := by
  unfold eTup
  rw [ha, Option.bind_some]; dsimp only
  rw [if_pos (small_le hz)]
theorem lstS (ha : A e = some (ds, e1)) (hz : ds.length ≤ 16777216) : eLst A e = some (.fl ds, e1) := by
  unfold eLst
  rw [ha, Option.bind_some]; dsimp only
  rw [if_pos (small_le hz)]
theorem oValS (h : F e = some (r, e1)) : oVal F e = some (fun _ => some r.d, e1) := by unfold oVal; rw [h]; rfl
theorem binS {g : D → D → Option Rs} {t u : Th} (ha : X e = some (t, e1)) (hb : Y e1 = some (u, e2)) (h1 : t e2 = some x) (h2 : u e2 = some y) (hg : g x y = some r) : eBin g X Y e = some (r, e2) := by
  unfold eBin
  rw [ha, Option.bind_some]; dsimp only
  rw [hb, Option.bind_some]; dsimp only
  rw [h1, Option.bind_some, h2, Option.bind_some, hg]; rfl
theorem bS {g : List D → Option Rs} {As : FOs} {t : EE → Option (List D)} (ha : As e = some (t, e1)) (h1 : t e1 = some ds) (hg : g ds = some r) : eB g As e = some (r, e1) := by
  unfold eB
  rw [ha, Option.bind_some]; dsimp only
  rw [h1, Option.bind_some, hg]; rfl
theorem runS_of {np nl : Nat} {Q : Src} (hl : ds.length + 1 = np) (h : RS S ⟨some .src :: (args ds ++ List.replicate (nl - np) none), Q⟩ r q) : runS np nl S ds Q = some (r, q) := by
  obtain ⟨e', h1, h2⟩ := h
  unfold runS
  rw [if_pos hl, h1, ← h2]; rfl
end
end EL
/-! EL22: comprehensions that only look, over what freezes a slot first. -/
namespace EL
open PySem PySem.Spec PyProof.Rows L2
variable [KC]
theorem comp_look1 {I : FA} {T : FT} {F : FE} {e e1 : EE} {ds : List D} {i : Nat} (m : D → Bool) (f : D → D) (hI : I e = some (ds, e1)) (hi : e1.r[i]? = some none) (hz : ds.length ≤ 16777216)
    (ht : ∀ d ∈ ds, T (e1.put i (some (.val d))) = some (m d, e1.put i (some (.val d))))
    (hF : ∀ d ∈ ds, m d = true → ∃ r, F (e1.put i (some (.val d))) = some (r, e1.put i (some (.val d))) ∧ r.d = f d) :
    eComp [i] I (gN i) T F e = some (.fl ((ds.filter m).map f), e1) := by
  have := comp_look (I := fun e => some (ds, e)) (e := e1) m f rfl hi hz ht hF
  unfold VE eComp at this
  unfold eComp
  rw [hI]
  exact this
end EL
/-! EL23: readings run by simp: each combinator's own equation. -/
namespace EL
open PySem PySem.Spec PyProof.Rows L2
variable [KC]
section
variable (F G : FE) (A B C : FO) (As : FOs) (L U : FA) (T T' : FT) (e : EE) (i : Nat) (S S' : FS) (d : D) (ds : List D) (r : List (Option Ent)) (Q : Src) (g : FG) (h : FGs)
@[simp] theorem x_put (x : Option Ent) : EE.put ⟨r, Q⟩ i x = ⟨r.set i x, Q⟩ := rfl
@[simp] theorem x_put_r (x : Option Ent) : (e.put i x).r = e.r.set i x := rfl
@[simp] theorem x_put_S (x : Option Ent) : (e.put i x).S = e.S := rfl
@[simp] theorem x_d1 : (Rs.val d).d = d := rfl
@[simp] theorem x_d2 : (Rs.fl ds).d = .list ds := rfl
@[simp] theorem x_d3 (b : Bool) (kvs : List (D × D)) : (Rs.fd b kvs).d = .dict kvs := rfl
@[simp] theorem x_e1 : (Rs.val d).ent = .val d := rfl
@[simp] theorem x_e2 : (Rs.fl ds).ent = .ol ds := rfl
@[simp] theorem x_e3 (b : Bool) (kvs : List (D × D)) : (Rs.fd b kvs).ent = .od b kvs := rfl
@[simp] theorem x_n1 : (Ent.val d).d = some d := rfl
@[simp] theorem x_n2 : (Ent.ol ds).d = some (.list ds) := rfl
@[simp] theorem x_n3 (b : Bool) (kvs : List (D × D)) : (Ent.od b kvs).d = some (.dict kvs) := rfl
@[simp] theorem x_fVar : fVar i e = match e.r[i]? with
  | some (some (.val d)) => some (.val d, e)
  | some (some (.ol ds)) => some (.val (.list ds), e.put i (some (.val (.list ds))))
  | some (some (.od b kvs)) => some (.val (.dict kvs), e.put i (some (.val (.dict kvs))))
  | _ => none := rfl
@[simp] theorem x_rd : rd i e = match e.r[i]? with
  | some (some x) => x.d
  | _ => none := rfl
@[simp] theorem x_fC : fC d e = some (.val d, e) := rfl
@[simp] theorem x_oVal : oVal F e = (F e).bind fun p => some (fun _ => some p.1.d, p.2) := rfl
@[simp] theorem x_oVar : oVar i e = (rd i e).bind fun _ => some (fun e => rd i e, e) := rfl
@[simp] theorem x_oNil : oNil e = some (fun _ => some [], e) := rfl
@[simp] theorem x_oCons : oCons A As e = (A e).bind fun p => (As p.2).bind fun q => some (fun z => (p.1 z).bind fun d => (q.1 z).bind fun ds => some (d :: ds), q.2) := rfl
@[simp] theorem x_aNil : aNil e = some ([], e) := rfl
@[simp] theorem x_aCons : aCons F L e = (F e).bind fun p => (L p.2).bind fun q => some (p.1.d :: q.1, q.2) := rfl
@[simp] theorem x_aStar : aStar A L e = (A e).bind fun p => (p.1 p.2).bind fun d => (seqD d).bind fun ds => (L p.2).bind fun q => some (ds ++ q.1, q.2) := rfl
@[simp] theorem x_eBin (g : D → D → Option Rs) : eBin g A B e = (A e).bind fun p => (B p.2).bind fun q => (p.1 q.2).bind fun x => (q.1 q.2).bind fun y => (g x y).bind fun r => some (r, q.2) := rfl
@[simp] theorem x_eUn (g : D → Option Rs) : eUn g A e = (A e).bind fun p => (p.1 p.2).bind fun x => (g x).bind fun r => some (r, p.2) := rfl
@[simp] theorem x_eB (g : List D → Option Rs) : eB g As e = (As e).bind fun p => (p.1 p.2).bind fun x => (g x).bind fun r => some (r, p.2) := rfl
@[simp] theorem x_eTup : eTup L e = (L e).bind fun p => if small p.1.length = true then some (.val (.tuple p.1), p.2) else none := rfl
@[simp] theorem x_eLst : eLst L e = (L e).bind fun p => if small p.1.length = true then some (.fl p.1, p.2) else none := rfl
@[simp] theorem x_tOf : tOf F e = (F e).bind fun p => match p.1 with
  | .val (.bool b) => some (b, p.2)
  | _ => none := rfl
@[simp] theorem x_tAnd : tAnd T T' e = (T e).bind fun p => if p.1 = true then T' p.2 else some (false, p.2) := rfl
@[simp] theorem x_tOr : tOr T T' e = (T e).bind fun p => if p.1 = true then some (true, p.2) else T' p.2 := rfl
@[simp] theorem x_tNot : tNot T e = (T e).bind fun p => some (!p.1, p.2) := rfl
@[simp] theorem x_eAnd : eAnd F G e = (F e).bind fun p => match p.1 with
  | .val (.bool true) => G p.2
  | .val (.bool false) => some (.val (.bool false), p.2)
  | _ => none := rfl
@[simp] theorem x_eOr : eOr F G e = (F e).bind fun p => match p.1 with
  | .val (.bool false) => G p.2
  | .val (.bool true) => some (.val (.bool true), p.2)
  | _ => none := rfl
@[simp] theorem x_eNot : eNot F e = (F e).bind fun p => match p.1 with
  | .val (.bool b) => some (.val (.bool !b), p.2)
  | _ => none := rfl
@[simp] theorem x_eIf : eIf T F G e = (T e).bind fun p => if p.1 = true then F p.2 else G p.2 := rfl
@[simp] theorem x_sNx : sNx e = some (.nx, e) := rfl
@[simp] theorem x_sBk : sBk e = some (.bk, e) := rfl
@[simp] theorem x_sCt : sCt e = some (.ct, e) := rfl
@[simp] theorem x_bCons : bCons S S' e = (S e).bind fun p => match p.1 with
  | .nx => S' p.2
  | .rt r => some (.rt r, p.2)
  | .bk => some (.bk, p.2)
  | .ct => some (.ct, p.2) := rfl
@[simp] theorem x_sSet : sSet i F e = (F e).bind fun p => if i < p.2.r.length then some (.nx, p.2.put i (some p.1.ent)) else none := rfl
@[simp] theorem x_sRet : sRet F e = (F e).bind fun p => some (.rt p.1, p.2) := rfl
@[simp] theorem x_sRetN : sRetN e = some (.rt (.val .none), e) := rfl
@[simp] theorem x_sDrop : sDrop F e = (F e).bind fun p => some (.nx, p.2) := rfl
@[simp] theorem x_sIf : sIf T S S' e = (T e).bind fun p => if p.1 = true then S p.2 else S' p.2 := rfl
@[simp] theorem x_sRetV : sRetV i e = match e.r[i]? with
  | some (some (.val d)) => some (.rt (.val d), e.put i none)
  | some (some (.ol ds)) => some (.rt (.fl ds), e.put i none)
  | some (some (.od b kvs)) => some (.rt (.fd b kvs), e.put i none)
  | _ => none := rfl
@[simp] theorem x_gN : gN i d e = if i < e.r.length then some (e.put i (some (.val d))) else none := rfl
@[simp] theorem x_gsNil : gsNil ds e = match ds with
  | [] => some e
  | _ => none := rfl
@[simp] theorem x_gsCons : gsCons g h ds e = match ds with
  | d :: ds => (g d e).bind (h ds)
  | [] => none := rfl
@[simp] theorem x_gT (n : Nat) : gT n h d e = match d with
  | .tuple ds => if ds.length = n then h ds e else none
  | _ => none := rfl
@[simp] theorem x_sAsg : sAsg F g e = (F e).bind fun p => (g p.1.d p.2).bind fun e' => some (.nx, e') := rfl
@[simp] theorem x_sFor : sFor L g S e = (L e).bind fun p => forL g S p.1 p.2 := rfl
@[simp] theorem x_sWh (n : EE → Nat) : sWh T S n e = whL T S (n e) e := rfl
@[simp] theorem x_iSeq : iSeq F e = (F e).bind fun p => (seqD p.1.d).bind fun ds => some (ds, p.2) := rfl
@[simp] theorem x_seqD1 : seqD (.list ds) = some ds := rfl
@[simp] theorem x_seqD2 : seqD (.tuple ds) = some ds := rfl
@[simp] theorem x_iRg1 : iRg1 As e = (As e).bind fun p => (p.1 p.2).bind fun ds => match ds with
  | [.int j] => if inW j = true then some (rgL 0 j.toNat, p.2) else none
  | _ => none := rfl
@[simp] theorem x_iRg2 : iRg2 As e = (As e).bind fun p => (p.1 p.2).bind fun ds => match ds with
  | [.int i, .int j] => if (inW i && inW j) = true then some (rgL i (j - i).toNat, p.2) else none
  | _ => none := rfl
@[simp] theorem x_wipe0 : wipeE e [] = e := rfl
@[simp] theorem x_wipe1 (v : Nat) (vs : List Nat) : wipeE e (v :: vs) = (wipeE e vs).put v none := rfl
@[simp] theorem x_keep1 : keepV (some (some (.val d))) = some (.val d) := rfl
@[simp] theorem x_keep2 : keepV (some (some (.ol ds))) = none := rfl
@[simp] theorem x_keep3 (b : Bool) (kvs : List (D × D)) : keepV (some (some (.od b kvs))) = none := rfl
@[simp] theorem x_keep4 : keepV (some none) = none := rfl
@[simp] theorem x_rest0 (e0 : EE) : restE e0 e [] = e := rfl
@[simp] theorem x_rest1 (e0 : EE) (v : Nat) (vs : List Nat) : restE e0 e (v :: vs) = restE e0 (e.put v (if vs.contains v then none else keepV e0.r[v]?)) vs := rfl
@[simp] theorem x_tYs : tYs e = some (true, e) := rfl
@[simp] theorem x_eComp (vs : List Nat) : eComp vs L g T F e = (L e).bind fun p => (compL vs g T F p.1 (wipeE p.2 vs)).bind fun z => if small z.1.length = true then some (.fl z.1, restE p.2 z.2 vs) else none := rfl
@[simp] theorem x_eCall (φ : List D → Option Rs) : eCall φ L e = (L e).bind fun p => (φ p.1).bind fun r => some (r, p.2) := rfl
@[simp] theorem x_eCallS (φ : List D → Src → Option (Rs × Src)) : eCallS i φ L e = match e.r[i]? with
  | some (some .src) => (L e).bind fun p => (φ p.1 p.2.S).bind fun q => some (q.1, ⟨p.2.r, q.2⟩)
  | _ => none := rfl
@[simp] theorem x_lstAt : lstAt i e = match e.r[i]? with
  | some (some (.ol ds)) => some ds
  | _ => none := rfl
@[simp] theorem x_mAppend : mAppend i F e = (lstAt i e).bind fun _ => (F e).bind fun p => (lstAt i p.2).bind fun ds =>
  if hide (ds.length < 16777216) = true then some (.val .none, p.2.put i (some (.ol (ds ++ [p.1.d])))) else none := rfl
@[simp] theorem x_mExtend : mExtend i A e = (lstAt i e).bind fun _ => (A e).bind fun p => (lstAt i p.2).bind fun ds => (p.1 p.2).bind fun d => match d with
  | .list xs => if small (ds.length + xs.length) = true then some (.val .none, p.2.put i (some (.ol (ds ++ xs)))) else none
  | _ => none := rfl
@[simp] theorem x_mPop : mPop i e = (lstAt i e).bind fun ds => (ds[ds.length - 1]?).bind fun d => some (.val d, e.put i (some (.ol ds.dropLast))) := rfl
@[simp] theorem x_mPopAt : mPopAt i F e = (lstAt i e).bind fun _ => (F e).bind fun p => (lstAt i p.2).bind fun ds => match p.1 with
  | .val (.int k) => if inW k = true then (seqIndex? k ds.length).bind fun j => (ds[j]?).bind fun d => some (.val d, p.2.put i (some (.ol (ds.eraseIdx j)))) else none
  | _ => none := rfl
@[simp] theorem x_gSubL : gSubL i F d e = (lstAt i e).bind fun _ => (F e).bind fun p => (lstAt i p.2).bind fun ds => match p.1 with
  | .val (.int k) => (ixN ds.length k).bind fun j => some (p.2.put i (some (.ol (ds.set j d))))
  | _ => none := rfl
@[simp] theorem x_dctAt : dctAt i e = match e.r[i]? with
  | some (some (.od b kvs)) => some (b, kvs)
  | _ => none := rfl
@[simp] theorem x_eDNew (b : Bool) : eDNew b e = some (.fd b [], e) := rfl
@[simp] theorem x_eDIn (neg : Bool) : eDIn neg F i e = (F e).bind fun p => (dctAt i p.2).bind fun q => if keyB q.1 p.1.d = true then some (.val (.bool (xor neg (dLook q.2 p.1.d).isSome)), p.2) else none := rfl
@[simp] theorem x_eDGet : eDGet i F e = (dctAt i e).bind fun _ => (F e).bind fun p => (dctAt i p.2).bind fun q => if keyB q.1 p.1.d = true then (dLook q.2 p.1.d).bind fun d => some (.val d, p.2) else none := rfl
@[simp] theorem x_sDPut : sDPut i F G e = (G e).bind fun q => (dctAt i q.2).bind fun _ => (F ⟨q.2.r, q.2.S⟩).bind fun p => (dctAt i p.2).bind fun z => if (keyB z.1 p.1.d && hide (z.2.length < 16777216)) = true then some (.nx, p.2.put i (some (.od z.1 (dPut z.2 p.1.d q.1.d)))) else none := rfl
@[simp] theorem x_rNil : rNil e = some ([], e) := rfl
@[simp] theorem x_rCons (R : FR) : rCons F R e = (F e).bind fun p => (R p.2).bind fun q => some (p.1 :: q.1, q.2) := rfl
@[simp] theorem x_store0 : storeL [] [] e = some e := rfl
@[simp] theorem x_store1 (is : List Nat) (q : Rs) (qs : List Rs) : storeL (i :: is) (q :: qs) e = if i < e.r.length then storeL is qs (e.put i (some q.ent)) else none := rfl
@[simp] theorem x_sPar (is : List Nat) (R : FR) : sPar is R e = (R e).bind fun p => (storeL is p.1 p.2).bind fun e' => some (.nx, e') := rfl
@[simp] theorem x_eRg (b : Bool) : eRg b A e = (A e).bind fun p => (p.1 p.2).bind fun d => match d with
  | .int n => if rgOk 0 n = true then some (if b = true then .fl (rgL 0 n.toNat) else .val (.tuple (rgL 0 n.toNat)), p.2) else none
  | _ => none := rfl
@[simp] theorem x_pNo : pNo e = some (none, e) := rfl
@[simp] theorem x_pIn : pIn F e = (F e).bind fun p => match p.1 with
  | .val (.int i) => some (some i, p.2)
  | _ => none := rfl
@[simp] theorem x_eSl (P P' : FP) : eSl A P P' e = (A e).bind fun p => (P p.2).bind fun l => (P' l.2).bind fun u => (p.1 u.2).bind fun d => (gSl d l.1 u.1).bind fun r => some (r, u.2) := rfl
@[simp] theorem x_eInst (t : String) : eInst A t e = (A e).bind fun p => (p.1 p.2).bind fun d => if instT t = true then some (.val (.bool (instB t (tyD d))), p.2) else none := rfl
@[simp] theorem x_iEnumD : iEnumD L e = (L e).bind fun p => match p.1 with
  | [d] => (seqD d).bind fun ds => some (enumD 0 ds, p.2)
  | _ => none := rfl
end
/-! ### a def run -/
@[simp] theorem x_args0 : args [] = [] := rfl
@[simp] theorem x_args1 (d : D) (ds : List D) : args (d :: ds) = some (.val d) :: args ds := rfl
@[simp] theorem x_out1 : out .nx = some (.val .none) := rfl
@[simp] theorem x_out2 (r : Rs) : out (.rt r) = some r := rfl
@[simp] theorem x_runD (np nl : Nat) (B : FS) (ds : List D) : runD np nl B ds = if ds.length = np then (B ⟨args ds ++ List.replicate (nl - np) none, S0⟩).bind fun p => out p.1 else none := rfl
@[simp] theorem x_runS (np nl : Nat) (B : FS) (ds : List D) (S : Src) : runS np nl B ds S = if ds.length + 1 = np then (B ⟨some .src :: (args ds ++ List.replicate (nl - np) none), S⟩).bind fun p => (out p.1).bind fun r => some (r, p.2.S) else none := rfl
/-! ### bounds -/
@[simp] theorem x_small {n : Nat} (h : n ≤ 16777216) : small n = true := small_le h
@[simp] theorem x_hideL {n : Nat} (h : n < 16777216) : hide (n < 16777216) = true := hid h
theorem x_inW {i : Int} (h0 : -4611686018427387904 ≤ i) (h : i < 4611686018427387904) : inW i = true := hid ⟨h0, h⟩
theorem x_rgOk {a b : Int} (h0 : -1000000000 ≤ a) (h1 : b ≤ 1000000000) (h2 : -1000000000 ≤ b) (h3 : a ≤ 1000000000) (h : b - a ≤ 16777216) : rgOk a b = true := by
  unfold rgOk
  rw [x_inW (by omega) (by omega), x_inW (by omega) (by omega), x_small (by omega)]; rfl
/-! ### data -/
section
variable (a b : Int) (x y : Str) (ds es : List D) (p q : Bool)
@[simp] theorem d_add : gAdd (.int a) (.int b) = some (.val (.int (a + b))) := rfl
@[simp] theorem d_sub : gSub (.int a) (.int b) = some (.val (.int (a - b))) := rfl
@[simp] theorem d_neg : gNeg (.int a) = some (.val (.int (-a))) := rfl
@[simp] theorem d_lt : gLt (.int a) (.int b) = some (.val (.bool (decide (a < b)))) := rfl
@[simp] theorem d_le : gLe (.int a) (.int b) = some (.val (.bool (decide (a ≤ b)))) := rfl
@[simp] theorem d_gt : gGt (.int a) (.int b) = some (.val (.bool (decide (b < a)))) := rfl
@[simp] theorem d_ge : gGe (.int a) (.int b) = some (.val (.bool (decide (b ≤ a)))) := rfl
@[simp] theorem d_mod (h : b ≠ 0) : gMod (.int a) (.int b) = some (.val (.int (a.fmod b))) := by
  show (if decide (b ≠ 0) = true then _ else _) = _
  rw [if_pos (decide_eq_true h)]
@[simp] theorem d_eqI : qEq (.int a) (.int b) = some (.val (.bool (a == b))) := qEq_int a b
@[simp] theorem d_neI : lNe (.int a) (.int b) = some (.val (.bool (!(a == b)))) := lNe_int a b
@[simp] theorem d_eqS : qEq (.str x) (.str y) = some (.val (.bool (decide (x = y)))) := rfl
@[simp] theorem d_neS : lNe (.str x) (.str y) = some (.val (.bool (!decide (x = y)))) := rfl
@[simp] theorem d_addT (h : ds.length + es.length ≤ 16777216) : gAdd (.tuple ds) (.tuple es) = some (.val (.tuple (ds ++ es))) := by
  show (if small _ = true then _ else _) = _
  rw [if_pos (small_le h)]
@[simp] theorem d_addL (h : ds.length + es.length ≤ 16777216) : gAdd (.list ds) (.list es) = some (.fl (ds ++ es)) := by
  show (if small _ = true then _ else _) = _
  rw [if_pos (small_le h)]
@[simp] theorem d_lenT : gLenD [.tuple ds] = some (.val (.int ds.length)) := rfl
@[simp] theorem d_lenL : gLenD [.list ds] = some (.val (.int ds.length)) := rfl
@[simp] theorem d_lenD (kvs : List (D × D)) : gLenD [.dict kvs] = some (.val (.int kvs.length)) := rfl
@[simp] theorem d_lenT' : gLen [.tuple ds] = some (.val (.int ds.length)) := rfl
@[simp] theorem d_lenL' : gLen [.list ds] = some (.val (.int ds.length)) := rfl
@[simp] theorem d_list1 : gList [.tuple ds] = some (.fl ds) := rfl
@[simp] theorem d_list2 : gList [.list ds] = some (.fl ds) := rfl
@[simp] theorem d_tup1 : gTuple [.tuple ds] = some (.val (.tuple ds)) := rfl
@[simp] theorem d_tup2 : gTuple [.list ds] = some (.val (.tuple ds)) := rfl
@[simp] theorem d_rev1 : gRev (.tuple ds) = some (.val (.tuple ds.reverse)) := rfl
@[simp] theorem d_rev2 : gRev (.list ds) = some (.fl ds.reverse) := rfl
@[simp] theorem d_abs : gAbs [.int a] = some (.val (.int (if a < 0 then -a else a))) := rfl
@[simp] theorem d_int1 : gInt [.int a] = some (.val (.int a)) := rfl
@[simp] theorem d_int2 : gInt [.bool p] = some (.val (.int (if p then 1 else 0))) := rfl
@[simp] theorem d_max : gMax [.int a, .int b] = some (.val (.int (if b > a then b else a))) := rfl
@[simp] theorem d_min : gMin [.int a, .int b] = some (.val (.int (if b < a then b else a))) := rfl
@[simp] theorem d_ty0 : tyD .none = "NoneType" := rfl
@[simp] theorem d_ty1 : tyD (.bool p) = "bool" := rfl
@[simp] theorem d_ty2 : tyD (.int a) = "int" := rfl
@[simp] theorem d_ty3 : tyD (.str x) = "str" := rfl
@[simp] theorem d_ty4 : tyD (.list ds) = "list" := rfl
@[simp] theorem d_ty5 : tyD (.tuple ds) = "tuple" := rfl
@[simp] theorem d_ty6 (kvs : List (D × D)) : tyD (.dict kvs) = "dict" := rfl
@[simp] theorem d_slT (lo hi : Option Int) : gSl (.tuple ds) lo hi = some (.val (.tuple (cutD ds lo hi))) := rfl
@[simp] theorem d_slL (lo hi : Option Int) : gSl (.list ds) lo hi = some (.fl (cutD ds lo hi)) := rfl
@[simp] theorem d_sumL : gSumL [.list ds] = (intsD ds).bind fun bs => some (.val (.int bs.sum)) := rfl
@[simp] theorem d_allL : gAll [.list ds] = (blsD ds).bind fun bs => some (.val (.bool (bs.all id))) := rfl
@[simp] theorem d_anyL : gAny [.list ds] = (blsD ds).bind fun bs => some (.val (.bool (bs.any id))) := rfl
@[simp] theorem d_isN0 : gIsN .none .none = some (.val (.bool true)) := rfl
end
/-- an item by its place -/
theorem atI_nat {α : Type} {l : List α} {n : Nat} {a : α} (h : l[n]? = some a) : L2.atI l (n : Int) = some a := by
  have hn : n < l.length := ltOf h
  unfold L2.atI L2.ixN
  rw [if_pos (by omega), if_pos (by omega)]
  simpa using h
theorem ix_natT {ds : List D} {n : Nat} {d : D} (h : ds[n]? = some d) : gIx (.tuple ds) (.int (n : Int)) = some (.val d) := gIx_nat h
theorem ix_natL {ds : List D} {n : Nat} {d : D} (h : ds[n]? = some d) : gIx (.list ds) (.int (n : Int)) = some (.val d) := by
  show (L2.atI ds (n : Int)).bind (fun d => some (Rs.val d)) = _
  rw [atI_nat h]; rfl
section
variable (d d' d'' d3 d4 : D) (ds : List D)
@[simp] theorem ix_T0 : gIx (.tuple (d :: ds)) (.int 0) = some (.val d) := ix_natT (n := 0) rfl
@[simp] theorem ix_T1 : gIx (.tuple (d :: d' :: ds)) (.int 1) = some (.val d') := ix_natT (n := 1) rfl
@[simp] theorem ix_T2 : gIx (.tuple (d :: d' :: d'' :: ds)) (.int 2) = some (.val d'') := ix_natT (n := 2) rfl
@[simp] theorem ix_T3 : gIx (.tuple (d :: d' :: d'' :: d3 :: ds)) (.int 3) = some (.val d3) := ix_natT (n := 3) rfl
@[simp] theorem ix_L0 : gIx (.list (d :: ds)) (.int 0) = some (.val d) := ix_natL (n := 0) rfl
@[simp] theorem ix_L1 : gIx (.list (d :: d' :: ds)) (.int 1) = some (.val d') := ix_natL (n := 1) rfl
end
end EL
/-! EL24: blocks that go on (NX) and blocks that return, whatever stands in the slots (RTx). -/
namespace EL
open PySem PySem.Spec PyProof.Rows L2
variable [KC]
def NX (B : FS) (e : EE) (P : EE → Prop) : Prop := ∃ e', B e = some (.nx, e') ∧ P e'
section
variable {A B S : FS} {e e1 : EE} {P Q : EE → Prop} {I : FA} {g : FG} {F : FE} {T : FT} {ds : List D} {r : Rs} {i : Nat}
theorem nx_of {e' : EE} (h : B e = some (.nx, e')) (p : P e') : NX B e P := ⟨e', h, p⟩
theorem nx_mono (h : NX B e P) (k : ∀ e, P e → Q e) : NX B e Q := by obtain ⟨e', h1, h2⟩ := h; exact ⟨e', h1, k _ h2⟩
theorem nx_cons (h : NX A e fun e1 => NX B e1 P) : NX (bCons A B) e P := by
  obtain ⟨e', h1, e2, h2, h3⟩ := h
  exact ⟨e2, by rw [bCons_nx h1, h2], h3⟩
theorem nx_set (h : F e = some (r, e1)) (hi : i < e1.r.length) (p : P (e1.put i (some r.ent))) : NX (sSet i F) e P :=
  ⟨_, by unfold sSet; rw [h, Option.bind_some]; dsimp only; rw [if_pos hi], p⟩
theorem nx_skip (h : T e = some (false, e1)) (p : P e1) : NX (sIf T A sNx) e P :=
  ⟨_, by unfold sIf; rw [h]; rfl, p⟩
theorem nx_if {c : Bool} (h : T e = some (c, e1)) (p : c = true → NX A e1 P) (q : c = false → NX B e1 P) : NX (sIf T A B) e P := by
  cases c with
  | true => obtain ⟨e', h1, h2⟩ := p rfl; exact ⟨e', by unfold sIf; rw [h]; exact h1, h2⟩
  | false => obtain ⟨e', h1, h2⟩ := q rfl; exact ⟨e', by unfold sIf; rw [h]; exact h1, h2⟩
theorem nx_for (Inv : List D → EE → Prop) (hI : I e = some (ds, e1)) (h0 : Inv ds e1) (hs : ∀ d rem e, Inv (d :: rem) e → ∃ e1, g d e = some e1 ∧ NX B e1 (Inv rem)) (k : ∀ e', Inv [] e' → P e') : NX (sFor I g B) e P := by
  obtain ⟨e', h1, h2⟩ := forL_inv Inv ds e1 h0 hs
  exact ⟨e', by unfold sFor; rw [hI, Option.bind_some]; exact h1, k _ h2⟩
theorem rt_cons (h : NX A e fun e1 => RT B e1 r) : RT (bCons A B) e r := by
  obtain ⟨e', h1, e2, h2⟩ := h
  exact ⟨e2, by rw [bCons_nx h1, h2]⟩
theorem rq_cons {q : Src} (h : NX A e fun e1 => RS B e1 r q) : RS (bCons A B) e r q := by
  obtain ⟨e', h1, e2, h2, h3⟩ := h
  exact ⟨e2, by rw [bCons_nx h1, h2], h3⟩
/-- a while, by a measure -/
theorem nx_wh {n : EE → Nat} (Inv : Nat → EE → Prop) (m : Nat) (hm : m < n e) (h0 : Inv m e)
    (hs : ∀ m e, Inv m e → (∃ e1, T e = some (false, e1) ∧ P e1) ∨ (∃ e1 m', T e = some (true, e1) ∧ m = m' + 1 ∧ NX B e1 (Inv m'))) : NX (sWh T B n) e P := by
  unfold NX sWh
  generalize n e = k at hm
  induction k generalizing m e with
  | zero => omega
  | succ k ih =>
    rcases hs m e h0 with ⟨e1, h1, h2⟩ | ⟨e1, m', h1, rfl, e2, h2, h3⟩
    · exact ⟨e1, by unfold whL; rw [h1]; rfl, h2⟩
    · obtain ⟨e', q1, q2⟩ := ih m' h3 (by omega)
      refine ⟨e', ?_, q2⟩
      unfold whL
      rw [h1, Option.bind_some]
      dsimp only
      rw [if_pos rfl, h2]
      exact q1
end
@[simp] theorem x_eSortDV (i : Nat) (e : EE) : eSortDV i e = (dctAt i e).bind fun z => match z.1 with
  | false => (keysS z.2).bind fun ks => if small64b ks.length = true then some (.fl ((srtS ks).map .str), e) else none
  | _ => none := rfl
theorem x_small64 {n : Nat} (h : n < 64) : small64b n = true := hid h
theorem repr_ok {d : D} (h : rpOk d = true) : gRepr [d] = some (.val (.str d.shown)) := by
  show (if rpOk d = true then _ else _) = _
  rw [if_pos h]
@[simp] theorem repr_bool (b : Bool) : gRepr [.bool b] = some (.val (.str (PyData.bool b).shown)) := repr_ok (Fn.ok (fn_of (by cases b <;> decide +kernel)))
@[simp] theorem d_notB (a b : Bool) : gNotN (.bool a) (.bool b) = some (.val (.bool (!decide (a = b)))) := rfl
@[simp] theorem d_isB (a b : Bool) : gIsN (.bool a) (.bool b) = some (.val (.bool (decide (a = b)))) := rfl
@[simp] theorem rgL_zero (lo : Int) : rgL lo 0 = [] := rfl
theorem rgL_len (lo : Int) (n : Nat) : (rgL lo n).length = n := by simp [rgL]
theorem rgL_mem {lo : Int} {n : Nat} {d : D} (h : d ∈ rgL lo n) : ∃ k : Nat, k < n ∧ d = .int (lo + k) := by
  unfold rgL at h
  obtain ⟨k, h1, h2⟩ := List.mem_map.mp h
  exact ⟨k, by simpa using h1, h2.symm⟩
end EL
/-! EL25: zip of two lists, of two tuples; gcd; * and // of great ints; constants of the top that are tuples of ints. -/
namespace EL
open PySem PySem.Spec PyProof.Rows L2
variable [KC]
def zipD : List D → List D → List D
  | a :: as, b :: bs => .tuple [a, b] :: zipD as bs
  | _, _ => []
theorem zipD_get : ∀ (xs ys : List D) (i : Nat) (d : D), (zipD xs ys)[i]? = some d → ∃ x y, xs[i]? = some x ∧ ys[i]? = some y ∧ d = .tuple [x, y]
  | [], ys, i, d, h => by simp [zipD] at h
  | x :: xs, [], i, d, h => by simp [zipD] at h
  | x :: xs, y :: ys, 0, d, h => by simp [zipD] at h; exact ⟨x, y, rfl, rfl, h.symm⟩
  | x :: xs, y :: ys, i + 1, d, h => by
    have h : (zipD xs ys)[i]? = some d := by simpa [zipD] using h
    obtain ⟨a, b, h1, h2, h3⟩ := zipD_get xs ys i d h
    exact ⟨a, b, by simpa using h1, by simpa using h2, h3⟩
theorem zipD_len : ∀ (xs ys : List D), (zipD xs ys).length = min xs.length ys.length
  | [], ys => by simp [zipD]
  | x :: xs, [] => by simp [zipD]
  | x :: xs, y :: ys => by simp only [zipD, List.length_cons, zipD_len xs ys]; omega
def iZipD (A : FA) : FA := fun e => (A e).bind fun p => match p.1 with
  | [.list xs, .list ys] => some (zipD xs ys, p.2)
  | [.tuple xs, .tuple ys] => some (zipD xs ys, p.2)
  | _ => none
theorem it_zipL {K : PySem.W.Frag} {G : Hp} {a b : Addr} {vs ws : List V} {ds es : List D} (h : SqL K G a vs) (r : RpA K G vs ds) (h' : SqL K G b ws) (r' : RpA K G ws es) : ItOk K G (Itz K a b) (zipD ds es) where
  go := fun G2 H2 i d l1 l2 hd => by
    obtain ⟨x, y, hx, hy, rfl⟩ := zipD_get _ _ _ _ hd
    obtain ⟨v, hv, rv⟩ := r.get hx
    obtain ⟨w, hw, rw'⟩ := r'.get hy
    refine ⟨⟨vs, ws, v, w, sqL_mono (l1.tr l2) h, sqL_mono (l1.tr l2) h', hv, hw⟩, fun z H3 hz => ?_⟩
    obtain ⟨T, p, q, rfl, hT, rfl, hp, hq⟩ := hz
    have e1 := hp vs (sqL_mono (l1.tr l2) h)
    have e2 := hq ws (sqL_mono (l1.tr l2) h')
    rw [hv] at e1; cases e1
    rw [hw] at e2; cases e2
    exact .tup hT (.cons (rv.mono l1) (.cons (rw'.mono l1) .nil))
  stop := fun G2 H2 l1 l2 => ⟨vs, ws, sqL_mono (l1.tr l2) h, sqL_mono (l1.tr l2) h', by rw [r.length, r'.length, zipD_len]; omega⟩
theorem it_zipT {K : PySem.W.Frag} {G : Hp} {a b : Addr} {vs ws : List V} {ds es : List D} (h : SqT K G a vs) (r : RpA K G vs ds) (h' : SqT K G b ws) (r' : RpA K G ws es) : ItOk K G (RZ.ItzT K a b) (zipD ds es) where
  go := fun G2 H2 i d l1 l2 hd => by
    obtain ⟨x, y, hx, hy, rfl⟩ := zipD_get _ _ _ _ hd
    obtain ⟨v, hv, rv⟩ := r.get hx
    obtain ⟨w, hw, rw'⟩ := r'.get hy
    refine ⟨⟨vs, ws, v, w, sqT_mono (l1.tr l2) h, sqT_mono (l1.tr l2) h', hv, hw⟩, fun z H3 hz => ?_⟩
    obtain ⟨T, p, q, rfl, hT, rfl, hp, hq⟩ := hz
    have e1 := hp vs (sqT_mono (l1.tr l2) h)
    have e2 := hq ws (sqT_mono (l1.tr l2) h')
    rw [hv] at e1; cases e1
    rw [hw] at e2; cases e2
    exact .tup hT (.cons (rv.mono l1) (.cons (rw'.mono l1) .nil))
  stop := fun G2 H2 l1 l2 => ⟨vs, ws, sqT_mono (l1.tr l2) h, sqT_mono (l1.tr l2) h', by rw [r.length, r'.length, zipD_len]; omega⟩
theorem id_zip {X : Cx} {e e2 : Expr} {A : FA} {p pos tpos : Pos} {elts : List Expr} {kk : Nat} (hg : Gl X "zip") (hm : X.mg "zip" = none) (ha : PA X [e, e2] (tA X.K A))
    (hs : starEach [e, e2] X.env = (false, eval e X.env) :: starEach [e2] X.env := by rfl) (hpl : (backTo pos (starEach [e2] X.env)).any (·.1) = false := by rfl) :
    ID X (.Tuple elts kk tpos) (.Call (.Name "zip" p) [e, e2] [] pos) (iZipD A) := by
  refine ⟨fun pins s σ H Q I w => ?_⟩
  obtain ⟨C, G, own, ev, ds, e', R, hf, k⟩ := w
  obtain ⟨⟨as, e1⟩, q1, q2⟩ := bind_some_of hf
  dsimp only at q2
  split at q2
  · rename_i xs ys
    cases q2
    refine (RZ.pi_zipA hg hm ha hs hpl).run pins s σ H Q I ⟨C, G, own, ev, _, _, R, q1, fun vs G1 own1 H1 l1 R1 ra => ?_⟩
    cases ra with
    | cons r1 r2 =>
      cases r2 with
      | cons r2 r3 =>
        cases r3
        cases r1 with
        | lst h1 rr1 =>
          cases r2 with
          | lst h2 rr2 => exact ⟨_, _, _, _, rfl, .inl ⟨.of (R1.sub _ _ h1), .of (R1.sub _ _ h2), k _ G1 own1 H1 l1 R1 (it_zipL (.of h1) rr1 (.of h2) rr2)⟩⟩
  · rename_i xs ys
    cases q2
    refine (RZ.pi_zipA hg hm ha hs hpl).run pins s σ H Q I ⟨C, G, own, ev, _, _, R, q1, fun vs G1 own1 H1 l1 R1 ra => ?_⟩
    cases ra with
    | cons r1 r2 =>
      cases r2 with
      | cons r2 r3 =>
        cases r3
        obtain ⟨a, rfl⟩ := r1.isRef
        obtain ⟨b, rfl⟩ := r2.isRef
        obtain ⟨ws, s1, rr1⟩ := r1.sqT
        obtain ⟨us, s2, rr2⟩ := r2.sqT
        exact ⟨a, b, ws, us, rfl, .inr ⟨sqT_mono R1.sub s1, sqT_mono R1.sub s2, k _ G1 own1 H1 l1 R1 (it_zipT s1 rr1 s2 rr2)⟩⟩
  · cases q2
/-! ### gcd -/
def gGcd : List D → Option Rs
  | [.int a, .int b] => some (.val (.int (Nat.gcd a.natAbs b.natAbs : Nat)))
  | _ => none
theorem c_gcd {X : Cx} : CallD X (.builtin "math.gcd") gGcd := by
  intro pins s σ H xs us Q I rs h
  obtain ⟨G, ds, r, sub, hx, hg, k⟩ := h
  unfold gGcd at hg
  split at hg
  · cases hg
    cases hx with
    | cons h1 h2 =>
      cases h2 with
      | cons h2 h3 =>
        cases h3
        cases h1.int
        cases h2.int
        exact cr_gcd pins s σ H _ us Q I rs ⟨_, _, rfl, k _ _ (.same (.int _))⟩
  · cases hg
theorem ed_callBf {X : Cx} {x : Str} {p pos : Pos} {e : Expr} {es : List Expr} {A : FOs} {id : String} {g : List D → Option Rs} (hc : CallD X (.builtin id) g) (hg : Gl X x) (hm : X.mg x = some (.builtin id)) (ha : PA X (e :: es) (tOs X.K A))
    (hdb : (x == ("__debug__" : Str)) = false := by decide) (he : starEach (e :: es) X.env = (false, eval e X.env) :: starEach es X.env := by rfl) (hpl : (backTo pos (starEach es X.env)).any (·.1) = false := by rfl) :
    ED X (.Call (.Name x p) (e :: es) [] pos) (eB g A) := peImp (pe_callBfun hc hg hm ha hdb he hpl) fun _ _ _ w => call_imp w
/-! ### great ints -/
def mulW (i j : Int) : Bool := hide ((-(2 ^ 64) < i ∧ i < 2 ^ 64) ∨ (-(2 ^ 64) < j ∧ j < 2 ^ 64) ∨ i.natAbs.log2 + j.natAbs.log2 < 1000000)
def gMulW : D → D → Option Rs
  | .int i, .int j => if mulW i j = true then some (.val (.int (i * j))) else none
  | .list a, .int k => if (inW k && small (a.length * k.toNat)) = true then some (.fl (List.replicate k.toNat a).flatten) else none
  | .tuple a, .int k => none
  | _, _ => none
def divW (j : Int) : Bool := hide ((j ≠ 0 ∧ j.natAbs < 1073741824) ∨ (0 < j ∧ j.natAbs.log2 < 9000))
def gDivW : D → D → Option Rs
  | .int i, .int j => if divW j = true then some (.val (.int (i.fdiv j))) else none
  | _, _ => none
theorem o_mulW {X : Cx} : OpD X (binaryOp .Mult) gMulW := by
  intro pins s σ H x y v u Q I rx ry h
  obtain ⟨G, dx, dy, r, sub, hx, hy, hg, k⟩ := h
  unfold gMulW at hg
  split at hg
  · split at hg
    · rename_i hz; cases hg; cases hx.int; cases hy.int
      rcases (unhide hz : _ ∨ _ ∨ _) with z | z | z
      · exact op_mul pins s σ H _ _ v u Q I rx ry ⟨_, _, rfl, rfl, .inl z, k _ _ (.same (.int _))⟩
      · exact op_mul pins s σ H _ _ v u Q I rx ry ⟨_, _, rfl, rfl, .inr z, k _ _ (.same (.int _))⟩
      · exact op_mulW pins s σ H _ _ v u Q I rx ry ⟨_, _, rfl, rfl, z, k _ _ (.same (.int _))⟩
    · cases hg
  · split at hg
    · rename_i hz; cases hg; cases hy.int
      rw [Bool.and_eq_true] at hz
      obtain ⟨p, vs, rfl, h1, h2⟩ := hx.list sub
      obtain ⟨b1, b2⟩ := unhide hz.1
      exact op_rep pins s σ H _ _ v u Q I rx ry ⟨p, _, vs, rfl, rfl, h1, by omega, by omega, by rw [h2.length]; exact line_of hz.2, fun l hl => k _ _ (.lst hl (h2.rep _))⟩
    · cases hg
  · cases hg
  · cases hg
theorem o_divW {X : Cx} : OpD X (binaryOp .FloorDiv) gDivW := by
  intro pins s σ H x y v u Q I rx ry h
  obtain ⟨G, dx, dy, r, sub, hx, hy, hg, k⟩ := h
  unfold gDivW at hg
  split at hg
  · split at hg
    · rename_i i j hz; cases hg; cases hx.int; cases hy.int
      rcases (unhide hz : _ ∨ _) with z | z
      · exact op_fdivN pins s σ H _ _ v u Q I rx ry ⟨_, _, rfl, rfl, z, k _ _ (.same (.int _))⟩
      · refine op_fdivW pins s σ H _ _ v u Q I rx ry ⟨_, _, rfl, rfl, z, ?_⟩
        have := k _ _ (.same (.int (i.fdiv j)))
        rwa [Int.fdiv_eq_ediv_of_nonneg i (by omega)] at this
    · cases hg
  · cases hg
/-! ### tuples of ints that the top has written -/
def KonI (K : PySem.W.Frag) (mg : Str → Option Value) (x : Str) (zs : List Int) : Prop :=
  ∃ a, mg x = some (.ref a) ∧ SqT K (fun _ => none) a (zs.map V.int)
theorem konI_of {K : PySem.W.Frag} {mg : Str → Option Value} {x : Str} {zs : List Int} {a : Addr} {od : Option Addr} {its : Array Value} {n : Nat} {sl : Array (Option Value)} (hm : mg x = some (.ref a))
    (hl : K.lookup a = some ⟨.type "tuple", od, .seq its n, sl⟩) (hz : its.size ≤ 60000) (hv : its.toList.map (fun u => match u with
      | .int z _ => some z
      | _ => none) = zs.map some) : KonI K mg x zs := by
  refine ⟨a, hm, .inr ⟨_, its, n, hl, rfl, rfl, by rw [sizeLine_eq]; omega, ?_⟩⟩
  generalize its.toList = us at hv
  clear hz hl
  induction us generalizing zs with
  | nil => cases zs with
    | nil => exact .nil
    | cons z zs => cases hv
  | cons u us ih => cases zs with
    | nil => cases hv
    | cons z zs =>
      simp only [List.map_cons, List.cons.injEq] at hv
      obtain ⟨h1, h2⟩ := hv
      refine .cons ?_ (ih h2)
      cases u with
      | int y t => cases h1; exact ⟨t, rfl⟩
      | _ => cases h1
theorem ed_gkonI {X : Cx} {x : Str} {pos : Pos} {zs : List Int} (hg : Gl X x) (hm : KonI X.K X.mg x zs) (hk : KC.kc (.tuple (zs.map PyData.int)) = true) (hd : (x == ("__debug__" : Str)) = false := by decide) :
    ED X (.Name x pos) (fC (.tuple (zs.map PyData.int))) := by
  obtain ⟨a, h1, h2⟩ := hm
  exact ed_glob (v := .ref a) hg h1 rfl (.kon h2 (RpA.ints _) hk) hd
/-! ### for simp -/
@[simp] theorem x_iZipD (A : FA) (e : EE) : iZipD A e = (A e).bind fun p => match p.1 with
  | [.list xs, .list ys] => some (zipD xs ys, p.2)
  | [.tuple xs, .tuple ys] => some (zipD xs ys, p.2)
  | _ => none := rfl
@[simp] theorem d_gcd (a b : Int) : gGcd [.int a, .int b] = some (.val (.int (Nat.gcd a.natAbs b.natAbs : Nat))) := rfl
end EL
/-! EL26: loops by the number of turns done; comprehensions that only look, any targets. -/
namespace EL
open PySem PySem.Spec PyProof.Rows L2
variable [KC]
section
variable {B : FS} {e e1 : EE} {P : EE → Prop} {I : FA} {g : FG} {ds : List D}
theorem forL_ix (Inv : Nat → EE → Prop) (ds : List D) (hs : ∀ i e d, ds[i]? = some d → Inv i e → ∃ e1, g d e = some e1 ∧ NX B e1 (Inv (i + 1))) : ∀ (rem : List D) (i : Nat) (e : EE), (∀ j, rem[j]? = ds[i + j]?) → Inv i e →
    ∃ e', forL g B rem e = some (.nx, e') ∧ Inv (i + rem.length) e'
  | [], i, e, _, h => ⟨e, rfl, h⟩
  | d :: rem, i, e, hr, h => by
    have h0 : ds[i]? = some d := by have := hr 0; simpa using this.symm
    obtain ⟨e1, h1, e2, h2, h3⟩ := hs i e d h0 h
    obtain ⟨e', q1, q2⟩ := forL_ix Inv ds hs rem (i + 1) e2 (fun j => by have := hr (j + 1); rw [show i + 1 + j = i + (j + 1) by omega]; simpa using this) h3
    refine ⟨e', ?_, by rw [List.length_cons, show i + (rem.length + 1) = i + 1 + rem.length by omega]; exact q2⟩
    unfold forL
    rw [h1, Option.bind_some, h2, Option.bind_some]
    exact q1
theorem nx_forI (Inv : Nat → EE → Prop) (hI : I e = some (ds, e1)) (h0 : Inv 0 e1) (hs : ∀ i e d, ds[i]? = some d → Inv i e → ∃ e1, g d e = some e1 ∧ NX B e1 (Inv (i + 1))) (k : ∀ e', Inv ds.length e' → P e') : NX (sFor I g B) e P := by
  obtain ⟨e', h1, h2⟩ := forL_ix Inv ds hs ds 0 e1 (fun j => by rw [Nat.zero_add]) h0
  rw [Nat.zero_add] at h2
  exact ⟨e', by unfold sFor; rw [hI, Option.bind_some]; exact h1, k _ h2⟩
theorem rgL_get {lo : Int} {n i : Nat} {d : D} (h : (rgL lo n)[i]? = some d) : d = .int (lo + i) ∧ i < n := by
  unfold rgL at h
  rw [List.getElem?_map] at h
  cases q : (List.range n)[i]? with
  | none => rw [q] at h; cases h
  | some k =>
    rw [q] at h
    have := List.getElem?_eq_some_iff.mp q
    obtain ⟨h1, h2⟩ := this
    simp at h2 h1
    subst h2
    simp at h
    exact ⟨h.symm, h1⟩
theorem enum_at {ds : List D} {i : Nat} {d : D} (h : (enumD 0 ds)[i]? = some d) : ∃ x, ds[i]? = some x ∧ d = .tuple [.int (i : Int), x] := by
  rw [enumD_get] at h
  cases q : ds[i]? with
  | none => rw [q] at h; cases h
  | some x =>
    rw [q] at h
    refine ⟨x, rfl, ?_⟩
    have := Option.some.inj h
    rw [← this]; simp
theorem get_map {α : Type} {f : α → D} {xs : List α} {i : Nat} {d : D} (h : (xs.map f)[i]? = some d) : ∃ x, xs[i]? = some x ∧ d = f x := by
  rw [List.getElem?_map] at h
  cases q : xs[i]? with
  | none => rw [q] at h; cases h
  | some x => rw [q] at h; exact ⟨x, rfl, (Option.some.inj h).symm⟩
theorem compL_fn {vs : List Nat} {F : FE} (f : D → D) : ∀ ds : List D, (∀ d ∈ ds, ∃ ea eb r, g d e = some ea ∧ F ea = some (r, eb) ∧ r.d = f d ∧ wipeE eb vs = e) → compL vs g tYs F ds e = some (ds.map f, e)
  | [], _ => rfl
  | d :: ds, h => by
    obtain ⟨ea, eb, r, h1, h2, h3, h4⟩ := h d List.mem_cons_self
    have ih := compL_fn f ds fun d' hd => h d' (List.mem_cons_of_mem _ hd)
    unfold compL
    rw [h1, Option.bind_some]
    show ((tYs ea).bind _ : Option _) = _
    rw [show tYs ea = some (true, ea) from rfl, Option.bind_some]
    dsimp only
    rw [if_pos rfl, h2, Option.bind_some]
    dsimp only
    rw [h4, ih, h3]; rfl
theorem comp_fn {vs : List Nat} {F : FE} (f : D → D) (hI : I e = some (ds, e1)) (hw : wipeE e1 vs = e1) (hr : restE e1 e1 vs = e1) (hz : ds.length ≤ 16777216) (h : ∀ d ∈ ds, ∃ ea eb r, g d e1 = some ea ∧ F ea = some (r, eb) ∧ r.d = f d ∧ wipeE eb vs = e1) :
    eComp vs I g tYs F e = some (.fl (ds.map f), e1) := by
  unfold eComp
  rw [hI, Option.bind_some]
  dsimp only
  rw [hw, compL_fn f ds h, Option.bind_some]
  dsimp only
  rw [if_pos (small_le (by rw [List.length_map]; exact hz)), hr]
end
end EL
/-! EL27: comprehensions by places; zips; repeated lists. -/
namespace EL
open PySem PySem.Spec PyProof.Rows L2
variable [KC]
section
variable {e e1 : EE} {I : FA} {g : FG} {F : FE} {vs : List Nat} {ds : List D}
theorem compL_ix {e : EE} : ∀ (ds out : List D), out.length = ds.length → (∀ (i : Nat) (d o : D), ds[i]? = some d → out[i]? = some o → ∃ ea eb r, g d e = some ea ∧ F ea = some (r, eb) ∧ r.d = o ∧ wipeE eb vs = e) → compL vs g tYs F ds e = some (out, e)
  | [], [], _, _ => rfl
  | [], _ :: _, h, _ => by simp at h
  | _ :: _, [], h, _ => by simp at h
  | d :: ds, o :: out, hl, h => by
    obtain ⟨ea, eb, r, h1, h2, h3, h4⟩ := h 0 d o rfl rfl
    have ih := compL_ix ds out (by simpa using hl) fun i d' o' a b => h (i + 1) d' o' (by simpa using a) (by simpa using b)
    unfold compL
    rw [h1, Option.bind_some]
    show ((tYs ea).bind _ : Option _) = _
    rw [show tYs ea = some (true, ea) from rfl, Option.bind_some]
    dsimp only
    rw [if_pos rfl, h2, Option.bind_some]
    dsimp only
    rw [h4, ih, h3]; rfl
theorem comp_ix (out : List D) (hI : I e = some (ds, e1)) (hl : out.length = ds.length) (hw : wipeE e1 vs = e1) (hr : restE e1 e1 vs = e1) (hz : ds.length ≤ 16777216) (h : ∀ (i : Nat) (d o : D), ds[i]? = some d → out[i]? = some o → ∃ ea eb r, g d e1 = some ea ∧ F ea = some (r, eb) ∧ r.d = o ∧ wipeE eb vs = e1) :
    eComp vs I g tYs F e = some (.fl out, e1) := by
  unfold eComp
  rw [hI, Option.bind_some]
  dsimp only
  rw [hw, compL_ix ds out hl h, Option.bind_some]
  dsimp only
  rw [if_pos (small_le (by rw [hl]; exact hz)), hr]
end
@[simp] theorem x_hideT (i : Decidable True) : @hide True i = true := @hid True i trivial
theorem d_repW {a : D} {k : Nat} (h : k ≤ 1000000) : gMulW (.list [a]) (.int (k : Int)) = some (.fl (List.replicate k a)) := by
  show (if (inW (k : Int) && small ([a].length * (k : Int).toNat)) = true then some (Rs.fl (List.replicate (k : Int).toNat [a]).flatten) else none) = _
  rw [x_inW (by omega) (by omega), small_le (by simp; omega)]
  simp
end EL
/-! EL28: lists, dicts of one's own lent to a def that hands back atoms and tuples alone; comprehensions whose names hold something before. -/
namespace EL
open PySem PySem.Spec PyProof.Rows L2
variable [KC]
mutual
def flatT : D → Bool
  | .none | .bool _ | .int _ | .str _ => true
  | .tuple ds => flatTs ds
  | _ => false
def flatTs : List D → Bool
  | [] => true
  | d :: ds => flatT d && flatTs ds
end
section
variable {K : PySem.W.Frag} {G G1 G' G2 H : Hp}
def NoTup (o : HO) : Prop := ∀ vs, o ≠ .tup vs
theorem lendA {vs : List V} {ds : List D} (h : RrA K G H vs ds) (sub : Le G H) : ∃ G1, Le G G1 ∧ Le G1 H ∧ RpA K G1 vs ds ∧ ∀ a o, G1 a = some o → G a = none → NoTup o := by
  induction ds generalizing vs with
  | nil => cases h; exact ⟨G, Le.rfl', sub, .nil, fun a o h1 h2 => by rw [h2] at h1; cases h1⟩
  | cons d ds ih =>
    cases h with
    | cons h r =>
      obtain ⟨G1, l1, l2, ra, nt⟩ := ih r
      have one : ∀ (p : Addr) (o : HO), H p = some o → NoTup o → ∃ G2, Le G1 G2 ∧ Le G2 H ∧ G2 p = some o ∧ ∀ a u, G2 a = some u → G a = none → NoTup u := fun p o hp no => by
        cases z : G1 p with
        | none =>
          refine ⟨upd G1 p o, Le.upd z, fun a u q => ?_, upd_same, fun a u q g => ?_⟩
          · by_cases e : a = p
            · subst e; rw [upd_same] at q; cases q; exact hp
            · rw [upd_ne e] at q; exact l2 a u q
          · by_cases e : a = p
            · subst e; rw [upd_same] at q; cases q; exact no
            · rw [upd_ne e] at q; exact nt a u q g
        | some u =>
          have := l2 p u z
          rw [hp] at this; cases this
          exact ⟨G1, Le.rfl', l2, z, nt⟩
      cases h with
      | frz h => exact ⟨G1, l1, l2, .cons (h.mono l1) ra, nt⟩
      | lst h rr =>
        obtain ⟨G2, a1, a2, a3, a4⟩ := one _ _ h fun _ z => by cases z
        exact ⟨G2, l1.tr a1, a2, .cons (.lst a3 (rr.mono (l1.tr a1))) (ra.mono a1), a4⟩
      | dic h =>
        rcases h with ⟨_, l', ds', h1, h2, rfl⟩ | ⟨_, l', ds', h1, h2, rfl⟩
        · obtain ⟨G2, a1, a2, a3, a4⟩ := one _ _ h1 fun _ z => by cases z
          exact ⟨G2, l1.tr a1, a2, .cons (.dk a3 (h2.mono (l1.tr a1))) (ra.mono a1), a4⟩
        · obtain ⟨G2, a1, a2, a3, a4⟩ := one _ _ h1 fun _ z => by cases z
          exact ⟨G2, l1.tr a1, a2, .cons (.dt a3 (h2.mono (l1.tr a1))) (ra.mono a1), a4⟩
def giveBack (G G1 G' : Hp) : Hp := fun a => match G a, G1 a with
  | none, some _ => none
  | _, _ => G' a
theorem gb_of (l : Le G1 G') (nt : ∀ a o, G1 a = some o → G a = none → NoTup o) {a : Addr} {vs : List V} (h : G' a = some (.tup vs)) : giveBack G G1 G' a = some (.tup vs) := by
  unfold giveBack
  split
  · rename_i o h1 h2
    have := l a o h2
    rw [h] at this; cases this
    exact absurd rfl (nt a _ h2 h1 vs)
  · exact h
theorem rp_back (l : Le G1 G') (nt : ∀ a o, G1 a = some o → G a = none → NoTup o) {v : V} {d : D} (h : Rp K G' v d) : flatT d = true → Rp K (giveBack G G1 G') v d :=
  Rp.rec (motive_1 := fun v d _ => flatT d = true → Rp K (giveBack G G1 G') v d) (motive_2 := fun vs ds _ => flatTs ds = true → RpA K (giveBack G G1 G') vs ds)
    (fun _ => .non) (fun b _ => .bl b) (fun i _ => .int i) (fun x _ => .str x) (fun _ _ _ f => by cases f) (fun h _ ih f => .tup (gb_of l nt h) (ih (by simpa [flatT] using f))) (fun h _ c ih f => .kon h (ih (by simpa [flatT] using f)) c)
    (fun _ _ _ f => by simp [flatT] at f) (fun _ _ _ f => by simp [flatT] at f) (fun _ => .nil) (fun _ _ i1 i2 f => by
      simp only [flatTs, Bool.and_eq_true] at f
      exact .cons (i1 f.1) (i2 f.2)) h
end
def eCallO (φ : List D → Option Rs) (A : FOs) : FE := fun e => (A e).bind fun p => (p.1 p.2).bind fun ds => (φ ds).bind fun r => match r with
  | .val d => if flatT d = true then some (.val d, p.2) else none
  | _ => none
section
variable {X : Cx} {k : Nat} {f : Addr} {fd : FuncData} {ps : List Str} {x : Str} {p pos : Pos} {e : Expr} {es : List Expr}
theorem ed_callO {φ : List D → Option Rs} {A : FOs} (F : FnG X.prog X.w X.K X.mg X.base k f fd ps (spD X.K φ)) (gd : X.A.guards = some []) (hr : Room k X.A) (hg : Gl X x) (hm : X.mg x = some (.ref f)) (hk : PySem.W.keepIn X.K (.ref f) = true) (hb : Binds X.K fd ps [])
    (ha : PA X (e :: es) (tOs X.K A)) (hdb : (x == ("__debug__" : Str)) = false := by decide) (he : starEach (e :: es) X.env = (false, eval e X.env) :: starEach es X.env := by rfl) (hpl : (backTo pos (starEach es X.env)).any (·.1) = false := by rfl) :
    ED X (.Call (.Name x p) (e :: es) [] pos) (eCallO φ A) := by
  refine peImp (pe_callG F gd hr hg hm hk hb ha hdb he hpl) fun σ H Q w => ?_
  obtain ⟨C, G, own, ev, r, e', R, hf, k⟩ := w
  obtain ⟨⟨t, e1⟩, h1, h2⟩ := bind_some_of hf
  obtain ⟨ds, h3, h4⟩ := bind_some_of h2
  obtain ⟨r', h5, h6⟩ := bind_some_of h4
  split at h6
  · rename_i d
    split at h6
    · rename_i hz
      cases h6
      refine ⟨C, G, own, ev, t, e1, R, h1, fun vs G1 own1 H1 l1 R1 g1 => ?_⟩
      obtain ⟨GL, a1, a2, ra, nt⟩ := lendA (g1 _ _ _ _ _ Le.rfl' R1 h3) R1.sub
      refine ⟨GL, ds, _, a2, ra, h5, fun v G' H' l l2 n kk rn => ?_⟩
      have lb : Le G1 (giveBack G1 GL G') := fun a o q => by
        unfold giveBack
        rw [q]
        exact l a o (a1 a o q)
      have l3 : Le (giveBack G1 GL G') H' := fun a o q => by
        unfold giveBack at q
        split at q
        · cases q
        · exact l2 a o q
      have nn : NewG G1 (giveBack G1 GL G') H1 := fun a q => by
        cases z : G1 a with
        | some o => exact .inl fun y => by cases y
        | none =>
          right
          unfold giveBack at q
          rw [z] at q
          cases y : GL a with
          | some o => rw [y] at q; exact absurd rfl q
          | none =>
            rw [y] at q
            rcases n a q with w | w
            · exact absurd y w
            · exact w
      have rn' : Rp X.K G' v d := rn
      obtain ⟨R', ok⟩ := R1.after (r := .val d) lb l3 nn kk (rp_back l nt rn' hz)
      exact k v _ own1 H' (l1.tr lb) R' ok
    · cases h6
  · cases h6
theorem ecO {φ : List D → Option Rs} {A : FOs} (c : Cal X.prog X.w X.K X.mg X.base k x ps (spD X.K φ)) (gd : X.A.guards = some []) (hr : Room k X.A) (hg : Gl X x) (ha : PA X (e :: es) (tOs X.K A)) (hdb : (x == ("__debug__" : Str)) = false := by decide)
    (he : starEach (e :: es) X.env = (false, eval e X.env) :: starEach es X.env := by rfl) (hpl : (backTo pos (starEach es X.env)).any (·.1) = false := by rfl) : ED X (.Call (.Name x p) (e :: es) [] pos) (eCallO φ A) := by
  obtain ⟨f, fd, g, m, kp, b⟩ := c
  exact ed_callO g gd hr hg m kp b ha hdb he hpl
end
@[simp] theorem x_eCallO (φ : List D → Option Rs) (A : FOs) (e : EE) : eCallO φ A e = (A e).bind fun p => (p.1 p.2).bind fun ds => (φ ds).bind fun r => match r with
  | .val d => if flatT d = true then some (.val d, p.2) else none
  | _ => none := rfl
/-! ### comprehensions whose names hold something before -/
theorem comp_ixW {e e1 : EE} {I : FA} {g : FG} {F : FE} {vs : List Nat} {ds : List D} (out : List D) (hI : I e = some (ds, e1)) (hl : out.length = ds.length) (hz : ds.length ≤ 16777216)
    (h : ∀ (i : Nat) (d o : D), ds[i]? = some d → out[i]? = some o → ∃ ea eb r, g d (wipeE e1 vs) = some ea ∧ F ea = some (r, eb) ∧ r.d = o ∧ wipeE eb vs = wipeE e1 vs) : eComp vs I g tYs F e = some (.fl out, restE e1 (wipeE e1 vs) vs) := by
  unfold eComp
  rw [hI, Option.bind_some]
  dsimp only
  rw [compL_ix ds out hl h, Option.bind_some]
  dsimp only
  rw [if_pos (small_le (by rw [hl]; exact hz))]
/-- what a test lets by, with a constant or the item itself -/
theorem comp_flt {e e1 : EE} {I : FA} {T : FT} {F : FE} {ds : List D} {i : Nat} (m : D → Bool) (f : D → D) (hI : I e = some (ds, e1)) (hi : e1.r[i]? = some none) (hz : ds.length ≤ 16777216)
    (ht : ∀ d ∈ ds, T (e1.put i (some (.val d))) = some (m d, e1.put i (some (.val d))))
    (hF : ∀ d ∈ ds, m d = true → ∃ r, F (e1.put i (some (.val d))) = some (r, e1.put i (some (.val d))) ∧ r.d = f d) : eComp [i] I (gN i) T F e = some (.fl ((ds.filter m).map f), e1) := comp_look1 m f hI hi hz ht hF
end EL
/-! EL29: a tuple times an int. -/
namespace EL
open PySem PySem.Spec PyProof.Rows L2
variable [KC]
def gMulT : D → D → Option Rs
  | .tuple (a :: as), .int k => if (decide (2 ≤ k) && (decide (k ≤ 1000) && decide ((a :: as).length ≤ 1000))) = true then some (.val (.tuple (List.replicate k.toNat (a :: as)).flatten)) else none
  | _, _ => none
theorem o_mulT {X : Cx} : OpD X (binaryOp .Mult) gMulT := by
  intro pins s σ H x y v u Q I rx ry h
  obtain ⟨G, dx, dy, r, sub, hx, hy, hg, k⟩ := h
  unfold gMulT at hg
  split at hg
  · split at hg
    · rename_i hz; cases hg; cases hy.int
      rw [Bool.and_eq_true, Bool.and_eq_true] at hz
      obtain ⟨p, vs, rfl, h1, h2⟩ := hx.tup sub
      have a1 := of_decide_eq_true hz.1
      have a2 := of_decide_eq_true hz.2.1
      have a3 := of_decide_eq_true hz.2.2
      refine op_repT pins s σ H _ _ v u Q I rx ry ⟨p, _, vs, rfl, rfl, h1, ?_, a1, a2, by rw [h2.length]; exact a3, fun l hl => k _ _ (.tup hl (h2.rep _))⟩
      intro z; subst z
      have := h2.length
      simp at this
    · cases hg
  · cases hg
end EL
/-! EL30: the first of some numbers; a loop that hands back at the first thing found. -/
namespace EL
open PySem PySem.Spec PyProof.Rows L2
variable [KC]
def first (c : Nat → Bool) (k : Nat) : Option Nat := (List.range k).find? c
theorem first_cases (c : Nat → Bool) : ∀ k : Nat, (∃ n, first c k = some n ∧ n < k ∧ c n = true ∧ ∀ j, j < n → c j = false) ∨ (first c k = none ∧ ∀ j, j < k → c j = false)
  | 0 => .inr ⟨rfl, fun j hj => absurd hj (by omega)⟩
  | k + 1 => by
    have e : first c (k + 1) = (first c k).or (if c k = true then some k else none) := by
      unfold first
      rw [List.range_succ, List.find?_append]
      congr 1
      simp [List.find?]
      cases c k <;> rfl
    rcases first_cases c k with ⟨n, h1, h2, h3, h4⟩ | ⟨h1, h2⟩
    · exact .inl ⟨n, by rw [e, h1]; rfl, by omega, h3, h4⟩
    · by_cases hk : c k = true
      · exact .inl ⟨k, by rw [e, h1, if_pos hk]; rfl, by omega, hk, h2⟩
      · refine .inr ⟨by rw [e, h1, if_neg hk]; rfl, fun j hj => ?_⟩
        by_cases q : j < k
        · exact h2 j q
        · have : j = k := by omega
          subst this; simpa using hk
theorem flt_first {α : Type} {m : α → Bool} {x : α} : ∀ {l : List α} {n : Nat}, l[n]? = some x → m x = true → (∀ j y, j < n → l[j]? = some y → m y = false) → ∃ rest, l.filter m = x :: rest
  | [], n, h, _, _ => by simp at h
  | a :: l, 0, h, hm, _ => by
    have : a = x := by simpa using h
    subst this
    exact ⟨l.filter m, by rw [List.filter_cons, if_pos hm]⟩
  | a :: l, n + 1, h, hm, hb => by
    have ha := hb 0 a (by omega) rfl
    obtain ⟨rest, e⟩ := flt_first (l := l) (n := n) (by simpa using h) hm fun j y hj hy => hb (j + 1) y (by omega) (by simpa using hy)
    exact ⟨rest, by rw [List.filter_cons, ha]; exact e⟩
section
variable {A B : FS} {e e1 : EE} {I : FA} {g : FG} {T : FT} {ds : List D} {r : Rs}
theorem forL_first (Inv : Nat → EE → Prop) (c : Nat → Bool) (ρ : Nat → Rs) (ds : List D)
    (hs : ∀ i e d, ds[i]? = some d → Inv i e → ∃ e1, g d e = some e1 ∧ ∃ e2, T e1 = some (c i, e2) ∧ (c i = false → Inv (i + 1) e2) ∧ (c i = true → ∃ e3, A e2 = some (.rt (ρ i), e3))) :
    ∀ (es : List D) (n : Nat) (e : EE), (∀ j, es[j]? = ds[n + j]?) → Inv n e → (∀ j, j < n → c j = false) →
      (∃ i e', i < n + es.length ∧ c i = true ∧ (∀ j, j < i → c j = false) ∧ forL g (sIf T A sNx) es e = some (.rt (ρ i), e')) ∨ ((∀ j, j < n + es.length → c j = false) ∧ ∃ e', forL g (sIf T A sNx) es e = some (.nx, e') ∧ Inv (n + es.length) e')
  | [], n, e, _, hi, hb => .inr ⟨hb, e, rfl, hi⟩
  | d :: es, n, e, he, hi, hb => by
    obtain ⟨e1, h1, e2, h2, h3, h4⟩ := hs n e d (by have := he 0; simpa using this.symm) hi
    cases hc : c n with
    | true =>
      obtain ⟨e3, h5⟩ := h4 hc
      refine .inl ⟨n, e3, by simp, hc, hb, ?_⟩
      unfold forL
      rw [h1, Option.bind_some]
      unfold sIf
      rw [h2, Option.bind_some, hc]
      dsimp only
      rw [if_pos rfl, h5]; rfl
    | false =>
      have go : forL g (sIf T A sNx) (d :: es) e = forL g (sIf T A sNx) es e2 := by
        conv => lhs; unfold forL
        rw [h1, Option.bind_some]
        have : sIf T A sNx e1 = some (.nx, e2) := by unfold sIf; rw [h2, Option.bind_some, hc]; rfl
        rw [this]; rfl
      rw [go, List.length_cons, show n + (es.length + 1) = n + 1 + es.length by omega]
      exact forL_first Inv c ρ ds hs es (n + 1) e2 (fun j => by have := he (j + 1); rw [show n + (j + 1) = n + 1 + j by omega] at this; simpa using this) (h3 hc) fun j hj => by
        by_cases q : j < n
        · exact hb j q
        · have : j = n := by omega
          rw [this]; exact hc
theorem rt_first (Inv : Nat → EE → Prop) (c : Nat → Bool) (ρ : Nat → Rs) (hI : I e = some (ds, e1)) (h0 : Inv 0 e1)
    (hs : ∀ i e d, ds[i]? = some d → Inv i e → ∃ e1, g d e = some e1 ∧ ∃ e2, T e1 = some (c i, e2) ∧ (c i = false → Inv (i + 1) e2) ∧ (c i = true → ∃ e3, A e2 = some (.rt (ρ i), e3)))
    (hr : ∀ i, i < ds.length → c i = true → (∀ j, j < i → c j = false) → ρ i = r) (k : (∀ j, j < ds.length → c j = false) → ∀ e', Inv ds.length e' → RT B e' r) : RT (bCons (sFor I g (sIf T A sNx)) B) e r := by
  rcases forL_first Inv c ρ ds hs ds 0 e1 (fun j => by rw [Nat.zero_add]) h0 (fun j hj => absurd hj (by omega)) with ⟨i, e', h1, h2, h3, h4⟩ | ⟨h1, e', h2, h3⟩
  · rw [Nat.zero_add] at h1
    have : sFor I g (sIf T A sNx) e = some (.rt (ρ i), e') := by unfold sFor; rw [hI, Option.bind_some]; exact h4
    rw [hr i h1 h2 h3] at this
    exact ⟨e', bCons_rt this⟩
  · rw [Nat.zero_add] at h1 h3
    exact rt_cons ⟨e', by unfold sFor; rw [hI, Option.bind_some]; exact h2, k h1 e' h3⟩
end
end EL
/-! R1: n over k for all rational n, sums, rows; no program here. -/
namespace EL
namespace R
/-! ### sums -/
def S : Nat → (Nat → Rat) → Rat
  | 0, _ => 0
  | m + 1, f => S m f + f m
theorem S_congr {f g : Nat → Rat} : ∀ {m : Nat}, (∀ k, k < m → f k = g k) → S m f = S m g
  | 0, _ => rfl
  | m + 1, h => by unfold S; rw [S_congr fun k hk => h k (by omega), h m (by omega)]
theorem S_add (f g : Nat → Rat) : ∀ m, S m (fun k => f k + g k) = S m f + S m g
  | 0 => by unfold S; grind
  | m + 1 => by unfold S; rw [S_add f g m]; grind
theorem S_sub (f g : Nat → Rat) : ∀ m, S m (fun k => f k - g k) = S m f - S m g
  | 0 => by unfold S; grind
  | m + 1 => by unfold S; rw [S_sub f g m]; grind
theorem S_mul (c : Rat) (f : Nat → Rat) : ∀ m, S m (fun k => c * f k) = c * S m f
  | 0 => by unfold S; grind
  | m + 1 => by unfold S; rw [S_mul c f m]; grind
theorem S_zero : ∀ m, S m (fun _ => 0) = 0
  | 0 => rfl
  | m + 1 => by unfold S; rw [S_zero m]; grind
theorem S_zero' {f : Nat → Rat} {m : Nat} (h : ∀ k, k < m → f k = 0) : S m f = 0 := (S_congr h).trans (S_zero m)
theorem S_tail {f : Nat → Rat} {m : Nat} : ∀ {M : Nat}, m ≤ M → (∀ k, m ≤ k → k < M → f k = 0) → S M f = S m f
  | 0, h, _ => by rw [show m = 0 by omega]
  | M + 1, h, z => by
    by_cases e : m = M + 1
    · rw [e]
    · show S M f + f M = S m f
      rw [S_tail (M := M) (m := m) (by omega) fun k a b => z k a (by omega), z M (by omega) (by omega)]; grind
theorem S_swap (f : Nat → Nat → Rat) (n : Nat) : ∀ m, S m (fun i => S n (fun j => f i j)) = S n (fun j => S m (fun i => f i j))
  | 0 => (S_zero n).symm
  | m + 1 => by
    show S m (fun i => S n (fun j => f i j)) + S n (fun j => f m j) = S n (fun j => S m (fun i => f i j) + f m j)
    rw [S_swap f n m, ← S_add]
/-- the first one apart -/
theorem S_first (f : Nat → Rat) : ∀ m, S (m + 1) f = f 0 + S m (fun k => f (k + 1))
  | 0 => by
    show (0 : Rat) + f 0 = f 0 + 0
    grind
  | m + 1 => by
    rw [show S (m + 1 + 1) f = S (m + 1) f + f (m + 1) from rfl, S_first f m]
    show _ = f 0 + (S m (fun k => f (k + 1)) + f (m + 1))
    grind
/-- one alone is not 0 -/
theorem S_one {f : Nat → Rat} {i : Nat} : ∀ {m : Nat}, i < m → (∀ k, k < m → k ≠ i → f k = 0) → S m f = f i
  | 0, h, _ => absurd h (by omega)
  | m + 1, h, z => by
    show S m f + f m = f i
    by_cases e : i = m
    · subst e
      rw [S_zero' fun k hk => z k (by omega) (by omega)]; grind
    · rw [S_one (m := m) (by omega) fun k a b => z k (by omega) b, z m (by omega) (by omega)]; grind
/-! ### n over k -/
theorem k1_ne (k : Nat) : ((k : Nat) : Rat) + 1 ≠ 0 := by
  have h : ((k : Nat) : Rat) + 1 = (((k + 1 : Nat)) : Rat) := by rw [Rat.natCast_add]; rfl
  rw [h]
  intro z
  have := Rat.natCast_eq_zero_iff.mp z
  omega
def cr (n : Rat) : Nat → Rat
  | 0 => 1
  | k + 1 => cr n k * (n - (k : Rat)) / ((k : Rat) + 1)
theorem cr_step (n : Rat) (k : Nat) : ((k : Rat) + 1) * cr n (k + 1) = cr n k * (n - (k : Rat)) := by
  have := k1_ne k
  rw [cr]; grind
theorem cast1 (k : Nat) : ((k + 1 : Nat) : Rat) = (k : Rat) + 1 := by rw [Rat.natCast_add]; rfl
theorem cr_pascal (n : Rat) : ∀ k, cr (n + 1) (k + 1) = cr n (k + 1) + cr n k
  | 0 => by
    have h1 := cr_step (n + 1) 0
    have h2 := cr_step n 0
    have e : ((0 : Nat) : Rat) = 0 := rfl
    rw [e] at h1 h2
    have a : cr (n + 1) 0 = 1 := rfl
    have b : cr n 0 = 1 := rfl
    rw [a] at h1; rw [b] at h2 ⊢
    grind
  | k + 1 => by
    have ih := cr_pascal n k
    have h1 := cr_step (n + 1) (k + 1)
    have h2 := cr_step n (k + 1)
    have h3 := cr_step n k
    have e := cast1 k
    rw [e] at h1 h2
    rw [ih] at h1
    have n1 := k1_ne k
    have n2 : (k : Rat) + 1 + 1 ≠ 0 := by have := k1_ne (k + 1); rwa [e] at this
    have : ((k : Rat) + 1 + 1) * cr (n + 1) (k + 1 + 1) = ((k : Rat) + 1 + 1) * (cr n (k + 1 + 1) + cr n (k + 1)) := by grind
    grind
theorem cr_zero : ∀ k, cr 0 (k + 1) = 0
  | 0 => by
    have h := cr_step 0 0
    have e : ((0 : Nat) : Rat) = 0 := rfl
    rw [e] at h; grind
  | k + 1 => by
    have h := cr_step 0 (k + 1)
    rw [cr_zero k] at h
    have := k1_ne (k + 1); grind
theorem cr_nat0 : ∀ (n k : Nat), n < k → cr (n : Rat) k = 0
  | 0, k + 1, h => cr_zero k
  | n + 1, k + 1, h => by
    rw [cast1, cr_pascal, cr_nat0 n (k + 1) (by omega), cr_nat0 n k (by omega)]; grind
theorem cr_self : ∀ n : Nat, cr (n : Rat) n = 1
  | 0 => rfl
  | n + 1 => by rw [cast1, cr_pascal, cr_nat0 n (n + 1) (by omega), cr_self n]; grind
/-- for integers it is an integer -/
theorem cr_int : ∀ (k : Nat) (n : Int), ∃ z : Int, cr (n : Rat) k = (z : Rat)
  | 0, n => ⟨1, rfl⟩
  | k + 1, n => by
    have up : ∀ m : Nat, ∃ z : Int, cr ((m : Int) : Rat) (k + 1) = (z : Rat) := by
      intro m
      induction m with
      | zero => exact ⟨0, cr_zero k⟩
      | succ m ih =>
        obtain ⟨z, hz⟩ := ih
        obtain ⟨y, hy⟩ := cr_int k (m : Int)
        refine ⟨z + y, ?_⟩
        have e : (((m + 1 : Nat) : Int) : Rat) = ((m : Int) : Rat) + 1 := by rw [show ((m + 1 : Nat) : Int) = (m : Int) + 1 by omega, Rat.intCast_add]; rfl
        rw [e, cr_pascal, hz, hy, Rat.intCast_add]
    have down : ∀ m : Nat, ∃ z : Int, cr ((-(m : Int) : Int) : Rat) (k + 1) = (z : Rat) := by
      intro m
      induction m with
      | zero => exact ⟨0, cr_zero k⟩
      | succ m ih =>
        obtain ⟨z, hz⟩ := ih
        obtain ⟨y, hy⟩ := cr_int k (-((m + 1 : Nat) : Int))
        refine ⟨z - y, ?_⟩
        have e : ((-(m : Int) : Int) : Rat) = ((-((m + 1 : Nat) : Int) : Int) : Rat) + 1 := by rw [show -(m : Int) = -((m + 1 : Nat) : Int) + 1 by omega, Rat.intCast_add]; rfl
        rw [e, cr_pascal, hy] at hz
        have : ((z - y : Int) : Rat) = (z : Rat) - (y : Rat) := by rw [Int.sub_eq_add_neg, Rat.intCast_add, Rat.intCast_neg]; grind
        rw [this]; grind
    rcases Int.eq_nat_or_neg n with ⟨m, rfl | rfl⟩
    · exact up m
    · exact down m
def ch (n : Int) (k : Nat) : Int := (cr (n : Rat) k).num
theorem ch_cr (n : Int) (k : Nat) : ((ch n k : Int) : Rat) = cr (n : Rat) k := by
  obtain ⟨z, hz⟩ := cr_int k n
  unfold ch
  rw [hz, Rat.num_intCast]
theorem ch_zero (n : Int) : ch n 0 = 1 := rfl
theorem ch_step (n : Int) (k : Nat) : ((k : Int) + 1) * ch n (k + 1) = ch n k * (n - (k : Int)) := by
  have h := cr_step (n : Rat) k
  rw [← ch_cr, ← ch_cr] at h
  have e : (((k : Int) + 1) * ch n (k + 1) : Int) = ch n k * (n - (k : Int)) ↔ (((((k : Int) + 1) * ch n (k + 1) : Int)) : Rat) = ((ch n k * (n - (k : Int)) : Int) : Rat) := Rat.intCast_inj.symm
  rw [e, Rat.intCast_mul, Rat.intCast_mul, Rat.intCast_add, Int.sub_eq_add_neg, Rat.intCast_add, Rat.intCast_neg]
  have c : (((k : Nat) : Int) : Rat) = ((k : Nat) : Rat) := rfl
  rw [c]
  have o : ((1 : Int) : Rat) = 1 := rfl
  rw [o]; grind
theorem ch_div (n : Int) (k : Nat) : (ch n k * (n - (k : Int))).fdiv ((k : Int) + 1) = ch n (k + 1) := by
  rw [← ch_step, Int.fdiv_eq_ediv_of_nonneg _ (by omega), Int.mul_ediv_cancel_left _ (by omega)]
theorem ch_pascal (n : Int) (k : Nat) : ch (n + 1) (k + 1) = ch n (k + 1) + ch n k := by
  have h := cr_pascal (n : Rat) k
  have e : ((n + 1 : Int) : Rat) = (n : Rat) + 1 := by rw [Rat.intCast_add]; rfl
  rw [← e, ← ch_cr, ← ch_cr, ← ch_cr, ← Rat.intCast_add] at h
  exact Rat.intCast_inj.mp h
/-- how great it can be -/
theorem ch_le (n : Int) : ∀ (k : Nat) (B : Nat), n.natAbs + k ≤ B → (ch n k).natAbs ≤ B ^ k
  | 0, B, h => by simp [ch_zero]
  | k + 1, B, h => by
    have ih := ch_le n k B (by omega)
    have st := congrArg Int.natAbs (ch_step n k)
    rw [Int.natAbs_mul, Int.natAbs_mul] at st
    have h1 : ((k : Int) + 1).natAbs = k + 1 := by omega
    have h2 : (n - (k : Int)).natAbs ≤ B := by omega
    rw [h1] at st
    have h3 : (ch n k).natAbs * (n - (k : Int)).natAbs ≤ B ^ k * B := Nat.mul_le_mul ih h2
    have h4 : (ch n (k + 1)).natAbs ≤ (k + 1) * (ch n (k + 1)).natAbs := Nat.le_mul_of_pos_left _ (by omega)
    rw [Nat.pow_succ]; omega
theorem ch_pos : ∀ (n k : Nat), k ≤ n → 0 < ch (n : Int) k
  | n, 0, _ => by simp [ch_zero]
  | n + 1, k + 1, h => by
    have e : ((n + 1 : Nat) : Int) = (n : Int) + 1 := by omega
    rw [e, ch_pascal]
    have h1 := ch_pos n k (by omega)
    by_cases z : k + 1 ≤ n
    · have := ch_pos n (k + 1) z; omega
    · have : ch (n : Int) (k + 1) = 0 := by
        have := ch_cr (n : Int) (k + 1)
        have c : (((n : Nat) : Int) : Rat) = ((n : Nat) : Rat) := rfl
        rw [c, cr_nat0 n (k + 1) (by omega)] at this
        exact Rat.intCast_inj.mp this
      omega
end R
end EL
/-! R2: rows: worths, noughts behind, uniqueness, products, shifts. -/
namespace EL
namespace R
def co (l : List Rat) (k : Nat) : Rat := l.getD k 0
def ev (l : List Rat) (n : Rat) : Rat := S l.length fun k => cr n k * co l k
theorem co_out {l : List Rat} {k : Nat} (h : l.length ≤ k) : co l k = 0 := by unfold co; simp [List.getD, List.getElem?_eq_none h]
theorem ev_wide {l : List Rat} {n : Rat} {m : Nat} (h : l.length ≤ m) : ev l n = S m fun k => cr n k * co l k :=
  (S_tail h fun k h1 _ => by rw [co_out h1]; grind).symm
theorem ev_co {l : List Rat} {n : Rat} {f : Nat → Rat} (h : ∀ k, k < l.length → co l k = f k) : ev l n = S l.length fun k => cr n k * f k :=
  S_congr fun k hk => by rw [h k hk]
/-- no nought at the end -/
def Tr (l : List Rat) : Prop := l = [] ∨ co l (l.length - 1) ≠ 0
theorem ev_nat {l : List Rat} (n : Nat) : ev l (n : Rat) = S (n + 1) fun k => cr (n : Rat) k * co l k := by
  by_cases h : l.length ≤ n + 1
  · exact ev_wide h
  · exact S_tail (by omega) fun k h1 _ => by rw [cr_nat0 n k (by omega)]; grind
theorem co_uniq {a b : List Rat} (h : ∀ n : Nat, ev a (n : Rat) = ev b (n : Rat)) : ∀ k, co a k = co b k := by
  intro k
  induction k using Nat.strongRecOn with
  | ind k ih =>
    have e := h k
    rw [ev_nat, ev_nat] at e
    unfold S at e
    rw [S_congr (f := fun j => cr (k : Rat) j * co a j) (g := fun j => cr (k : Rat) j * co b j) fun j hj => by rw [ih j hj]] at e
    dsimp only at e
    rw [cr_self] at e
    grind
theorem tr_uniq {a b : List Rat} (ha : Tr a) (hb : Tr b) (h : ∀ k, co a k = co b k) : a = b := by
  have len : a.length = b.length := by
    rcases Nat.lt_trichotomy a.length b.length with q | q | q
    · exfalso
      rcases hb with z | z
      · subst z; simp at q
      · exact z ((h _).symm.trans (co_out (by omega)))
    · exact q
    · exfalso
      rcases ha with z | z
      · subst z; simp at q
      · exact z ((h _).trans (co_out (by omega)))
  refine List.ext_getElem len fun k h1 h2 => ?_
  have := h k
  unfold co at this
  simpa [List.getD, h1, h2] using this
theorem row_uniq {a b : List Rat} (ha : Tr a) (hb : Tr b) (h : ∀ n : Nat, ev a (n : Rat) = ev b (n : Rat)) : a = b := tr_uniq ha hb (co_uniq h)
/-- noughts behind left out -/
def trimN (l : List Rat) : Nat → Nat
  | 0 => 0
  | m + 1 => if co l m = 0 then trimN l m else m + 1
def trim (l : List Rat) : List Rat := l.take (trimN l l.length)
theorem trimN_le (l : List Rat) : ∀ m, trimN l m ≤ m
  | 0 => Nat.le_refl _
  | m + 1 => by
    unfold trimN
    split
    · have := trimN_le l m; omega
    · omega
theorem trimN_zero (l : List Rat) : ∀ m k, trimN l m ≤ k → k < m → co l k = 0
  | 0, k, _, h => absurd h (by omega)
  | m + 1, k, h, h2 => by
    unfold trimN at h
    split at h
    · rename_i z
      by_cases e : k = m
      · rw [e]; exact z
      · exact trimN_zero l m k h (by omega)
    · omega
theorem trimN_top (l : List Rat) : ∀ m, trimN l m = 0 ∨ co l (trimN l m - 1) ≠ 0
  | 0 => .inl rfl
  | m + 1 => by
    unfold trimN
    split
    · exact trimN_top l m
    · rename_i z; exact .inr z
theorem co_take (l : List Rat) (m k : Nat) : co (l.take m) k = if k < m then co l k else 0 := by
  unfold co
  simp only [List.getD, List.getElem?_take]
  split <;> simp
theorem co_trim (l : List Rat) (k : Nat) : co (trim l) k = co l k := by
  unfold trim
  rw [co_take]
  split
  · rfl
  · by_cases h : k < l.length
    · exact (trimN_zero l l.length k (by omega) h).symm
    · exact (co_out (by omega)).symm
theorem trim_len (l : List Rat) : (trim l).length = trimN l l.length := by
  unfold trim
  rw [List.length_take]
  have := trimN_le l l.length
  omega
theorem trim_tr (l : List Rat) : Tr (trim l) := by
  rcases trimN_top l l.length with h | h
  · left
    have := trim_len l
    rw [h] at this
    exact List.length_eq_zero_iff.mp this
  · right
    rw [trim_len, co_trim]; exact h
theorem ev_of_co {a b : List Rat} {n : Rat} (h : ∀ k, co a k = co b k) : ev a n = ev b n := by
  rw [ev_wide (l := a) (m := a.length + b.length) (by omega), ev_wide (l := b) (m := a.length + b.length) (by omega)]
  exact S_congr fun k _ => by rw [h k]
theorem ev_trim (l : List Rat) (n : Rat) : ev (trim l) n = ev l n := ev_of_co (co_trim l)
theorem trim_of_tr {l : List Rat} (h : Tr l) : trim l = l := tr_uniq (trim_tr l) h (co_trim l)
theorem trim_mem {l : List Rat} {x : Rat} (h : x ∈ trim l) : x ∈ l := List.mem_of_mem_take h
theorem co_mem {l : List Rat} {k : Nat} (h : k < l.length) : co l k ∈ l := by
  unfold co
  simp only [List.getD, List.getElem?_eq_getElem h, Option.getD_some]
  exact List.getElem_mem h
theorem co_app (a b : List Rat) (k : Nat) : co (a ++ b) k = if k < a.length then co a k else co b (k - a.length) := by
  unfold co
  simp only [List.getD]
  split
  · rename_i h; rw [List.getElem?_append_left h]
  · rename_i h; rw [List.getElem?_append_right (by omega)]
theorem co_rep (m k : Nat) : co (List.replicate m 0) k = 0 := by
  unfold co
  simp only [List.getD, List.getElem?_replicate]
  split <;> rfl
/-- zeros behind -/
def wd (l : List Rat) (m : Nat) : List Rat := l ++ List.replicate (m - l.length) 0
theorem co_wd (l : List Rat) (m k : Nat) : co (wd l m) k = co l k := by
  unfold wd
  rw [co_app]
  split
  · rfl
  · rw [co_rep]; exact (co_out (by omega)).symm
theorem wd_len {l : List Rat} {m : Nat} (h : l.length ≤ m) : (wd l m).length = m := by unfold wd; simp; omega
theorem co_zip (f : Rat → Rat → Rat) {a b : List Rat} (h : a.length = b.length) (h0 : f 0 0 = 0) (k : Nat) : co (List.zipWith f a b) k = f (co a k) (co b k) := by
  unfold co
  simp only [List.getD, List.getElem?_zipWith]
  by_cases q : k < a.length
  · simp [q, show k < b.length by omega]
  · simp [List.getElem?_eq_none (show a.length ≤ k by omega), List.getElem?_eq_none (show b.length ≤ k by omega), h0]
theorem co_map (f : Rat → Rat) (h0 : f 0 = 0) (a : List Rat) (k : Nat) : co (a.map f) k = f (co a k) := by
  unfold co
  simp only [List.getD, List.getElem?_map]
  by_cases q : k < a.length
  · simp [q]
  · simp [List.getElem?_eq_none (show a.length ≤ k by omega), h0]
def rsum (a b : List Rat) : List Rat := trim (List.zipWith (· + ·) (wd a (max a.length b.length)) (wd b (max a.length b.length)))
def rless (a b : List Rat) : List Rat := trim (List.zipWith (· - ·) (wd a (max a.length b.length)) (wd b (max a.length b.length)))
def rscale (c : Rat) (a : List Rat) : List Rat := trim (a.map (c * ·))
theorem co_rsum (a b : List Rat) (k : Nat) : co (rsum a b) k = co a k + co b k := by
  unfold rsum
  rw [co_trim, co_zip _ (by rw [wd_len (by omega), wd_len (by omega)]) (by grind), co_wd, co_wd]
theorem co_rless (a b : List Rat) (k : Nat) : co (rless a b) k = co a k - co b k := by
  unfold rless
  rw [co_trim, co_zip _ (by rw [wd_len (by omega), wd_len (by omega)]) (by grind), co_wd, co_wd]
theorem co_rscale (c : Rat) (a : List Rat) (k : Nat) : co (rscale c a) k = c * co a k := by
  unfold rscale
  rw [co_trim, co_map _ (by grind)]
theorem ev_rsum (a b : List Rat) (n : Rat) : ev (rsum a b) n = ev a n + ev b n := by
  have h : (rsum a b).length ≤ (rsum a b).length + a.length + b.length := by omega
  rw [ev_wide h, ev_wide (l := a) (m := (rsum a b).length + a.length + b.length) (by omega), ev_wide (l := b) (m := (rsum a b).length + a.length + b.length) (by omega), ← S_add]
  exact S_congr fun k _ => by rw [co_rsum]; grind
theorem ev_rless (a b : List Rat) (n : Rat) : ev (rless a b) n = ev a n - ev b n := by
  have h : (rless a b).length ≤ (rless a b).length + a.length + b.length := by omega
  rw [ev_wide h, ev_wide (l := a) (m := (rless a b).length + a.length + b.length) (by omega), ev_wide (l := b) (m := (rless a b).length + a.length + b.length) (by omega), ← S_sub]
  exact S_congr fun k _ => by rw [co_rless]; grind
theorem ev_rscale (c : Rat) (a : List Rat) (n : Rat) : ev (rscale c a) n = c * ev a n := by
  rw [ev_wide (l := rscale c a) (m := (rscale c a).length + a.length) (by omega), ev_wide (l := a) (m := (rscale c a).length + a.length) (by omega), ← S_mul]
  exact S_congr fun k _ => by rw [co_rscale]; grind
/-! ### products -/
/-- how often the product of n over i and n over j has n over k -/
def u (i j k : Nat) : Rat := if k ≤ i + j then cr (k : Rat) i * cr (i : Rat) (i + j - k) else 0
theorem cr_low (i : Nat) (n : Rat) : ∀ i, n * cr (n - 1) i = (n - (i : Rat)) * cr n i
  | 0 => by
    have a : cr (n - 1) 0 = 1 := rfl
    have b : cr n 0 = 1 := rfl
    have e : ((0 : Nat) : Rat) = 0 := rfl
    rw [a, b, e]; grind
  | i + 1 => by
    have ih := cr_low i n i
    have h1 := cr_step (n - 1) i
    have h2 := cr_step n i
    have h3 := k1_ne i
    rw [cast1]
    have : ((i : Rat) + 1) * (n * cr (n - 1) (i + 1)) = ((i : Rat) + 1) * ((n - ((i : Rat) + 1)) * cr n (i + 1)) := by grind
    grind
theorem u_step (i j k : Nat) : ((j : Rat) + 1) * u i (j + 1) (k + 1) = ((k : Rat) + 1 - (j : Rat)) * u i j (k + 1) + ((k : Rat) + 1) * u i j k := by
  unfold u
  have low := cr_low i ((k : Rat) + 1) i
  rw [show (k : Rat) + 1 - 1 = (k : Rat) by grind] at low
  by_cases h1 : k + 1 ≤ i + j
  · obtain ⟨t, ht⟩ : ∃ t, t = i + j - (k + 1) := ⟨_, rfl⟩
    rw [if_pos (by omega), if_pos h1, if_pos (by omega), show i + (j + 1) - (k + 1) = t + 1 by omega, ← ht, show i + j - k = t + 1 by omega, cast1]
    have st := cr_step (i : Rat) t
    have e : (t : Rat) + ((k : Rat) + 1) = (i : Rat) + (j : Rat) := by
      have : ((t + (k + 1) : Nat) : Rat) = ((i + j : Nat) : Rat) := by rw [show t + (k + 1) = i + j by omega]
      rw [Rat.natCast_add t (k + 1), Rat.natCast_add i j, cast1] at this; exact this
    have : ((k : Rat) + 1 - (j : Rat)) = (i : Rat) - (t : Rat) := by grind
    rw [this]
    have jj : (j : Rat) = (t : Rat) + ((k : Rat) + 1) - (i : Rat) := by grind
    rw [jj]
    have a : ((k : Rat) + 1) * (cr (k : Rat) i * cr (i : Rat) (t + 1)) = ((k : Rat) + 1 - (i : Rat)) * cr ((k : Rat) + 1) i * cr (i : Rat) (t + 1) := by grind
    rw [a]
    have b : ((i : Rat) - (t : Rat)) * (cr ((k : Rat) + 1) i * cr (i : Rat) t) = cr ((k : Rat) + 1) i * (((t : Rat) + 1) * cr (i : Rat) (t + 1)) := by rw [st]; grind
    rw [b]; grind
  · by_cases h2 : k ≤ i + j
    · have hk : k = i + j := by omega
      rw [if_pos (by omega), if_neg h1, if_pos h2, show i + (j + 1) - (k + 1) = 0 by omega, show i + j - k = 0 by omega, cast1]
      have c0 : cr (i : Rat) 0 = 1 := rfl
      rw [c0]
      have e : (k : Rat) = (i : Rat) + (j : Rat) := by rw [hk, Rat.natCast_add]
      have : ((k : Rat) + 1) * cr (k : Rat) i = ((j : Rat) + 1) * cr ((k : Rat) + 1) i := by rw [low, e]; grind
      grind
    · rw [if_neg (by omega), if_neg h1, if_neg h2]; grind
theorem u_zero (i j : Nat) : ((j : Rat) + 1) * u i (j + 1) 0 = (0 - (j : Rat)) * u i j 0 := by
  unfold u
  rw [if_pos (by omega), if_pos (by omega)]
  cases i with
  | zero =>
    have a : cr ((0 : Nat) : Rat) (0 + (j + 1) - 0) = 0 := cr_nat0 0 _ (by omega)
    rw [a]
    cases j with
    | zero => have e : ((0 : Nat) : Rat) = 0 := rfl; rw [e]; grind
    | succ j =>
      have b : cr ((0 : Nat) : Rat) (0 + (j + 1) - 0) = 0 := cr_nat0 0 _ (by omega)
      rw [b]; grind
  | succ i =>
    have a : cr ((0 : Nat) : Rat) (i + 1) = 0 := cr_nat0 0 _ (by omega)
    rw [a]; grind
theorem u_top (i j : Nat) : u i j (i + j + 1) = 0 := by unfold u; rw [if_neg (by omega)]
theorem prod_ch (n : Rat) (i : Nat) : ∀ (j M : Nat), i + j < M → S M (fun k => cr n k * u i j k) = cr n i * cr n j
  | 0, M, h => by
    have c0 : cr n 0 = 1 := rfl
    rw [c0, S_one (i := i) (by omega) fun k hk hne => ?_]
    · unfold u
      rw [if_pos (by omega), cr_self, show i + 0 - i = 0 by omega]
      have : cr (i : Rat) 0 = 1 := rfl
      rw [this]; grind
    · unfold u
      split
      · rw [cr_nat0 k i (by omega)]; grind
      · grind
  | j + 1, M, h => by
    have ih := prod_ch n i j M (by omega)
    have h3 := k1_ne j
    have key : ((j : Rat) + 1) * S M (fun k => cr n k * u i (j + 1) k) = (n - (j : Rat)) * S M (fun k => cr n k * u i j k) := by
      obtain ⟨M, rfl⟩ : ∃ m, M = m + 1 := ⟨M - 1, by omega⟩
      have e1 : ((j : Rat) + 1) * S (M + 1) (fun k => cr n k * u i (j + 1) k) = S (M + 1) (fun k => cr n k * ((k : Rat) - (j : Rat)) * u i j k) + S M (fun k => cr n (k + 1) * ((k : Rat) + 1) * u i j k) := by
        rw [← S_mul, S_first, S_first (fun k => cr n k * ((k : Rat) - (j : Rat)) * u i j k)]
        have z0 := u_zero i j
        have e : ((0 : Nat) : Rat) = 0 := rfl
        rw [S_congr (f := fun k => ((j : Rat) + 1) * (cr n (k + 1) * u i (j + 1) (k + 1))) (g := fun k => cr n (k + 1) * (((k + 1 : Nat) : Rat) - (j : Rat)) * u i j (k + 1) + cr n (k + 1) * ((k : Rat) + 1) * u i j k) fun k _ => by
          have := u_step i j k
          rw [cast1]; grind, S_add, e]
        have c0 : cr n 0 = 1 := rfl
        rw [c0]; grind
      have e2 : S M (fun k => cr n (k + 1) * ((k : Rat) + 1) * u i j k) = S (M + 1) (fun k => cr n k * (n - (k : Rat)) * u i j k) := by
        have e3 : S (M + 1) (fun k => cr n k * (n - (k : Rat)) * u i j k) = S M (fun k => cr n k * (n - (k : Rat)) * u i j k) + cr n M * (n - (M : Rat)) * u i j M := rfl
        have uz : u i j M = 0 := by unfold u; rw [if_neg (by omega)]
        rw [e3, uz, S_congr (f := fun k => cr n (k + 1) * ((k : Rat) + 1) * u i j k) (g := fun k => cr n k * (n - (k : Rat)) * u i j k) fun k _ => by
          have := cr_step n k; grind]
        grind
      rw [e1, e2, ← S_add, ← S_mul]
      exact S_congr fun k _ => by grind
    rw [ih] at key
    have st := cr_step n j
    have : ((j : Rat) + 1) * S M (fun k => cr n k * u i (j + 1) k) = ((j : Rat) + 1) * (cr n i * cr n (j + 1)) := by rw [key]; grind
    grind
end R
end EL
/-! R3: shifts, sums up to n, products as lists. -/
namespace EL
namespace R
/-! ### shifts -/
theorem van (n m : Rat) : ∀ (i M : Nat), i < M → S M (fun k => cr n k * (if k ≤ i then cr m (i - k) else 0)) = cr (n + m) i
  | 0, M, h => by
    have c0 : cr (n + m) 0 = 1 := rfl
    rw [c0, S_one (i := 0) (by omega) fun k hk hne => by rw [if_neg (by omega)]; grind]
    rw [if_pos (by omega)]
    have a : cr n 0 = 1 := rfl
    have b : cr m (0 - 0) = 1 := rfl
    rw [a, b]; grind
  | i + 1, M, h => by
    have h3 := k1_ne i
    have st := cr_step (n + m) i
    obtain ⟨M, rfl⟩ : ∃ m, M = m + 1 := ⟨M - 1, by omega⟩
    have ih := van n m i (M + 1) (by omega)
    have ih' := van n m i M (by omega)
    have key : ((i : Rat) + 1) * S (M + 1) (fun k => cr n k * (if k ≤ i + 1 then cr m (i + 1 - k) else 0)) = (n + m - (i : Rat)) * cr (n + m) i := by
      have e1 : ((i : Rat) + 1) * S (M + 1) (fun k => cr n k * (if k ≤ i + 1 then cr m (i + 1 - k) else 0)) =
          S (M + 1) (fun k => cr n k * ((m - ((i : Rat) - (k : Rat))) * (if k ≤ i then cr m (i - k) else 0))) + S M (fun k => cr n (k + 1) * ((k : Rat) + 1) * (if k ≤ i then cr m (i - k) else 0)) := by
        rw [← S_mul, S_first, S_first (fun k => cr n k * ((m - ((i : Rat) - (k : Rat))) * (if k ≤ i then cr m (i - k) else 0)))]
        rw [S_congr (f := fun k => ((i : Rat) + 1) * (cr n (k + 1) * (if k + 1 ≤ i + 1 then cr m (i + 1 - (k + 1)) else 0))) (g := fun k => cr n (k + 1) * ((m - ((i : Rat) - ((k + 1 : Nat) : Rat))) * (if k + 1 ≤ i then cr m (i - (k + 1)) else 0)) + cr n (k + 1) * ((k : Rat) + 1) * (if k ≤ i then cr m (i - k) else 0)) fun k _ => by
          by_cases q : k + 1 ≤ i
          · obtain ⟨t, ht⟩ : ∃ t, t = i - (k + 1) := ⟨_, rfl⟩
            rw [if_pos (by omega), if_pos q, if_pos (by omega), ← ht, show i + 1 - (k + 1) = t + 1 by omega, show i - k = t + 1 by omega, cast1]
            have s1 := cr_step m t
            have e : (i : Rat) = (t : Rat) + ((k : Rat) + 1) := by
              have : ((i : Nat) : Rat) = ((t + (k + 1) : Nat) : Rat) := by rw [show t + (k + 1) = i by omega]
              rw [Rat.natCast_add t (k + 1), cast1] at this; exact this
            rw [e]
            have : (m - ((t : Rat) + ((k : Rat) + 1) - ((k : Rat) + 1))) * cr m t = ((t : Rat) + 1) * cr m (t + 1) := by rw [s1]; grind
            rw [this]; grind
          · by_cases q2 : k = i
            · rw [if_pos (by omega), if_neg q, if_pos (by omega), q2, show i + 1 - (i + 1) = 0 by omega, show i - i = 0 by omega]; grind
            · rw [if_neg (by omega), if_neg q, if_neg (by omega)]; grind, S_add]
        rw [if_pos (by omega), if_pos (by omega), show i + 1 - 0 = i + 1 by omega, show i - 0 = i by omega]
        have c0 : cr n 0 = 1 := rfl
        have e : ((0 : Nat) : Rat) = 0 := rfl
        have s1 := cr_step m i
        rw [c0, e]
        have : (m - ((i : Rat) - 0)) * cr m i = ((i : Rat) + 1) * cr m (i + 1) := by rw [s1]; grind
        rw [this]; grind
      have e2 : S M (fun k => cr n (k + 1) * ((k : Rat) + 1) * (if k ≤ i then cr m (i - k) else 0)) = S (M + 1) (fun k => cr n k * ((n - (k : Rat)) * (if k ≤ i then cr m (i - k) else 0))) := by
        have e3 : S (M + 1) (fun k => cr n k * ((n - (k : Rat)) * (if k ≤ i then cr m (i - k) else 0))) = S M (fun k => cr n k * ((n - (k : Rat)) * (if k ≤ i then cr m (i - k) else 0))) + cr n M * ((n - (M : Rat)) * (if M ≤ i then cr m (i - M) else 0)) := rfl
        rw [e3, if_neg (show ¬ M ≤ i by omega), S_congr (f := fun k => cr n (k + 1) * ((k : Rat) + 1) * (if k ≤ i then cr m (i - k) else 0)) (g := fun k => cr n k * ((n - (k : Rat)) * (if k ≤ i then cr m (i - k) else 0))) fun k _ => by
          have := cr_step n k; grind]
        grind
      rw [e1, e2, ← S_add, ← ih, ← S_mul]
      exact S_congr fun k _ => by grind
    have : ((i : Rat) + 1) * S (M + 1) (fun k => cr n k * (if k ≤ i + 1 then cr m (i + 1 - k) else 0)) = ((i : Rat) + 1) * cr (n + m) (i + 1) := by rw [key, st]; grind
    grind
/-- the number of n over k behind a shift -/
def shc (l : List Rat) (m : Rat) (k : Nat) : Rat := S l.length fun i => (if k ≤ i then cr m (i - k) else 0) * co l i
def shl (l : List Rat) (m : Rat) : List Rat := (List.range l.length).map (shc l m)
theorem co_shl (l : List Rat) (m : Rat) (k : Nat) : co (shl l m) k = if k < l.length then shc l m k else 0 := by
  unfold co shl
  simp only [List.getD, List.getElem?_map, List.getElem?_range]
  split
  · rename_i h; simp [List.getElem?_range, h]
  · rename_i h; simp [List.getElem?_range, h]
theorem shl_len (l : List Rat) (m : Rat) : (shl l m).length = l.length := by simp [shl]
theorem ev_shl (l : List Rat) (m n : Rat) : ev (shl l m) n = ev l (n + m) := by
  rw [ev_co (f := shc l m) fun k hk => by rw [co_shl, if_pos (by rwa [shl_len] at hk)], shl_len]
  unfold shc
  rw [S_congr (g := fun k => S l.length fun i => cr n k * ((if k ≤ i then cr m (i - k) else 0) * co l i)) fun k _ => by rw [S_mul], S_swap (fun k i => cr n k * ((if k ≤ i then cr m (i - k) else 0) * co l i))]
  unfold ev
  refine S_congr fun i hi => ?_
  rw [S_congr (g := fun k => co l i * (cr n k * (if k ≤ i then cr m (i - k) else 0))) fun k _ => by grind, S_mul, van n m i _ hi]; grind
theorem shc_top {l : List Rat} {m : Rat} {k : Nat} (h : l.length = k + 1) : shc l m k = co l k := by
  unfold shc
  rw [S_one (i := k) (by omega) fun i hi hne => by rw [if_neg (by omega)]; grind, if_pos (Nat.le_refl _), Nat.sub_self]
  have : cr m 0 = 1 := rfl
  rw [this]; grind
theorem shl_tr {l : List Rat} (m : Rat) (h : Tr l) : Tr (shl l m) := by
  rcases h with h | h
  · left; subst h; rfl
  · by_cases z : l.length = 0
    · left; have := shl_len l m; rw [z] at this; exact List.length_eq_zero_iff.mp this
    · right
      rw [shl_len, co_shl, if_pos (by omega), shc_top (k := l.length - 1) (by omega)]; exact h
/-! ### sums up to n -/
theorem ev_cons0 (l : List Rat) (n : Rat) : ev (0 :: l) (n + 1) = ev (0 :: l) n + ev l n := by
  have h : ∀ x : Rat, ev (0 :: l) x = S l.length fun k => cr x (k + 1) * co l k := fun x => by
    unfold ev
    rw [List.length_cons, S_first]
    have : co (0 :: l) 0 = 0 := rfl
    have e3 : S l.length (fun k => cr x (k + 1) * co (0 :: l) (k + 1)) = S l.length fun k => cr x (k + 1) * co l k := rfl
    rw [this, e3]; grind
  rw [h, h]
  unfold ev
  rw [← S_add]
  exact S_congr fun k _ => by rw [cr_pascal]; grind
theorem ev_at0 (l : List Rat) : ev (0 :: l) 0 = 0 := by
  unfold ev
  rw [S_zero' fun k hk => ?_]
  cases k with
  | zero => have : co (0 :: l) 0 = 0 := rfl; rw [this]; grind
  | succ k => rw [cr_zero]; grind
theorem ev_summed (l : List Rat) : ∀ m : Nat, ev (0 :: l) (m : Rat) = S m fun i => ev l (i : Rat)
  | 0 => ev_at0 l
  | m + 1 => by rw [cast1, ev_cons0, ev_summed l m]; rfl
/-- a row less itself at one less -/
theorem ev_tail (c : Rat) (l : List Rat) (n : Rat) : ev (c :: l) (n + 1) - ev (c :: l) n = ev l n := by
  have h : ∀ x : Rat, ev (c :: l) x = c + S l.length fun k => cr x (k + 1) * co l k := fun x => by
    unfold ev
    rw [List.length_cons, S_first]
    have e : co (c :: l) 0 = c := rfl
    have e2 : cr x 0 = 1 := rfl
    have e3 : S l.length (fun k => cr x (k + 1) * co (c :: l) (k + 1)) = S l.length fun k => cr x (k + 1) * co l k := rfl
    rw [e, e2, e3]; grind
  rw [h, h]
  unfold ev
  have : S l.length (fun k => cr (n + 1) (k + 1) * co l k) - S l.length (fun k => cr n (k + 1) * co l k) = S l.length fun k => cr n k * co l k := by
    rw [← S_sub]
    exact S_congr fun k _ => by rw [cr_pascal]; grind
  grind
/-! ### products as lists -/
def F (a b : List Rat) (k : Nat) : Rat := S a.length fun i => S b.length fun j => u i j k * (co a i * co b j)
def rtm (a b : List Rat) : List Rat := (List.range (a.length + b.length)).map (F a b)
theorem rtm_len (a b : List Rat) : (rtm a b).length = a.length + b.length := by simp [rtm]
theorem co_rtm (a b : List Rat) (k : Nat) : co (rtm a b) k = if k < a.length + b.length then F a b k else 0 := by
  unfold co rtm
  simp only [List.getD, List.getElem?_map]
  split
  · rename_i h; simp [List.getElem?_range, h]
  · rename_i h; simp [List.getElem?_range, h]
theorem ev_rtm (a b : List Rat) (n : Rat) : ev (rtm a b) n = ev a n * ev b n := by
  rw [ev_co (f := F a b) fun k hk => by rw [co_rtm, if_pos (by rwa [rtm_len] at hk)], rtm_len]
  unfold F
  rw [S_congr (g := fun k => S a.length fun i => cr n k * S b.length fun j => u i j k * (co a i * co b j)) fun k _ => by rw [S_mul], S_swap (fun k i => cr n k * S b.length fun j => u i j k * (co a i * co b j))]
  have inner : ∀ i, i < a.length → S (a.length + b.length) (fun k => cr n k * S b.length fun j => u i j k * (co a i * co b j)) = (cr n i * co a i) * ev b n := fun i hi => by
    rw [S_congr (g := fun k => S b.length fun j => cr n k * (u i j k * (co a i * co b j))) fun k _ => by rw [S_mul], S_swap (fun k j => cr n k * (u i j k * (co a i * co b j)))]
    unfold ev
    rw [← S_mul]
    refine S_congr fun j hj => ?_
    rw [S_congr (g := fun k => (co a i * co b j) * (cr n k * u i j k)) fun k _ => by grind, S_mul, prod_ch n i j _ (by omega)]; grind
  rw [S_congr inner, S_congr (g := fun i => ev b n * (cr n i * co a i)) fun i _ => by grind, S_mul]
  show _ = ev a n * ev b n
  have : S a.length (fun i => cr n i * co a i) = ev a n := rfl
  rw [this]; grind
theorem F_top {a b : List Rat} (ha : Tr a) (hb : Tr b) (na : a ≠ []) (nb : b ≠ []) : F a b (a.length + b.length - 2) ≠ 0 := by
  have la : 0 < a.length := List.length_pos_iff.mpr na
  have lb : 0 < b.length := List.length_pos_iff.mpr nb
  have ca : co a (a.length - 1) ≠ 0 := by rcases ha with h | h; exact absurd h na; exact h
  have cb : co b (b.length - 1) ≠ 0 := by rcases hb with h | h; exact absurd h nb; exact h
  unfold F
  rw [S_one (i := a.length - 1) (by omega) fun i hi hne => S_zero' fun j hj => by
    unfold u; rw [if_neg (by omega)]; grind]
  rw [S_one (i := b.length - 1) (by omega) fun j hj hne => by
    unfold u; rw [if_neg (by omega)]; grind]
  unfold u
  rw [if_pos (by omega), show a.length - 1 + (b.length - 1) - (a.length + b.length - 2) = 0 by omega]
  have c0 : cr ((a.length - 1 : Nat) : Rat) 0 = 1 := rfl
  have pos := ch_pos (a.length + b.length - 2) (a.length - 1) (by omega)
  have e := ch_cr ((a.length + b.length - 2 : Nat) : Int) (a.length - 1)
  have cz : cr ((a.length + b.length - 2 : Nat) : Rat) (a.length - 1) ≠ 0 := by
    intro z
    have c : (((a.length + b.length - 2 : Nat) : Int) : Rat) = ((a.length + b.length - 2 : Nat) : Rat) := rfl
    rw [c, z] at e
    have : ch ((a.length + b.length - 2 : Nat) : Int) (a.length - 1) = 0 := Rat.intCast_inj.mp e
    omega
  rw [c0]
  grind
theorem F_out {a b : List Rat} {k : Nat} (h : a.length + b.length ≤ k + 1) : F a b k = 0 := by
  unfold F
  exact S_zero' fun i hi => S_zero' fun j hj => by unfold u; rw [if_neg (by omega)]; grind
def rtimes (a b : List Rat) : List Rat := trim (rtm a b)
theorem ev_rtimes (a b : List Rat) (n : Rat) : ev (rtimes a b) n = ev a n * ev b n := by unfold rtimes; rw [ev_trim, ev_rtm]
theorem rtimes_len {a b : List Rat} (ha : Tr a) (hb : Tr b) (na : a ≠ []) (nb : b ≠ []) : (rtimes a b).length + 1 = a.length + b.length := by
  have la : 0 < a.length := List.length_pos_iff.mpr na
  have lb : 0 < b.length := List.length_pos_iff.mpr nb
  have t := F_top ha hb na nb
  have c1 : co (rtimes a b) (a.length + b.length - 2) ≠ 0 := by unfold rtimes; rw [co_trim, co_rtm, if_pos (by omega)]; exact t
  have hle : a.length + b.length - 2 < (rtimes a b).length := by
    rcases Nat.lt_or_ge (a.length + b.length - 2) (rtimes a b).length with q | q
    · exact q
    · exact absurd (co_out q) c1
  have hup : (rtimes a b).length ≤ a.length + b.length - 1 := by
    rcases Nat.lt_or_ge (a.length + b.length - 1) (rtimes a b).length with q | q
    · exfalso
      rcases trim_tr (rtm a b) with z | z
      · have : (rtimes a b).length = 0 := by unfold rtimes; rw [z]; rfl
        omega
      · refine z ?_
        rw [co_trim, co_rtm]
        split
        · exact F_out (by show _ ≤ (rtimes a b).length - 1 + 1; omega)
        · rfl
    · exact q
  omega
end R
end EL
set_option exponentiation.threshold 20000
/-! R4: fractions as data. -/
namespace EL
open PySem PySem.Spec PyProof.Rows L2
variable [KC]
def fr (q : Rat) : D := .tuple [.int q.num, .int (q.den : Int)]
def rw' (l : List Rat) : D := .tuple (l.map fr)
theorem fr_inj {a b : Rat} (h : fr a = fr b) : a = b := by
  unfold fr at h
  injection h with h
  injection h with h1 h2
  injection h1 with h1
  injection h2 with h2 h3
  injection h2 with h2
  exact Rat.ext h1 (by omega)
theorem fr_zero : fr 0 = .tuple [.int 0, .int 1] := rfl
theorem fr_one : fr 1 = .tuple [.int 1, .int 1] := rfl
theorem fr_int (z : Int) : fr (z : Rat) = .tuple [.int z, .int 1] := rfl
/-! ### what is not too great -/
def BIG : Nat := 2 ^ 4000
structure Ok (q : Rat) : Prop where
  n : q.num.natAbs < BIG
  d : q.den < BIG
/-- D times it is an integer, at most M -/
def Sz (D M : Nat) (q : Rat) : Prop := ∃ z : Int, (D : Rat) * q = (z : Rat) ∧ z.natAbs ≤ M
section
variable {D M D' M' : Nat} {a b q : Rat}
theorem Sz.num (h : Sz D M q) (hD : 0 < D) : q.num.natAbs ≤ M ∧ q.den ≤ D := by
  obtain ⟨z, h1, h2⟩ := h
  have hq : q = Rat.divInt z (D : Int) := by
    rw [Rat.divInt_eq_div]
    have : ((D : Int) : Rat) = (D : Rat) := rfl
    rw [this]
    have hne : (D : Rat) ≠ 0 := fun e => by have := Rat.natCast_eq_zero_iff.mp e; omega
    grind
  subst hq
  rw [Rat.num_divInt, Rat.den_divInt, if_neg (by omega)]
  have s : (D : Int).sign = 1 := Int.sign_eq_one_of_pos (by omega)
  rw [s, Int.one_mul]
  have g : 0 < (D : Int).gcd z := Int.gcd_pos_of_ne_zero_left _ (by omega)
  refine ⟨?_, ?_⟩
  · refine Nat.le_trans ?_ h2
    rw [Int.natAbs_ediv_of_dvd (Int.gcd_dvd_right _ _)]
    exact Nat.div_le_self _ _
  · exact Nat.div_le_self _ _
theorem Sz.ok (h : Sz D M q) (hD : 0 < D) (h1 : D < BIG) (h2 : M < BIG) : Ok q := by
  have := h.num hD
  exact ⟨by omega, by omega⟩
theorem Sz.mono (h : Sz D M q) (k : M ≤ M') : Sz D M' q := by obtain ⟨z, h1, h2⟩ := h; exact ⟨z, h1, by omega⟩
theorem Sz.zero : Sz D 0 0 := ⟨0, by grind, by simp⟩
theorem Sz.add (h : Sz D M a) (k : Sz D M' b) : Sz D (M + M') (a + b) := by
  obtain ⟨z, h1, h2⟩ := h
  obtain ⟨y, k1, k2⟩ := k
  exact ⟨z + y, by rw [Rat.intCast_add, ← h1, ← k1]; grind, by omega⟩
theorem Sz.neg (h : Sz D M a) : Sz D M (-a) := by
  obtain ⟨z, h1, h2⟩ := h
  exact ⟨-z, by rw [Rat.intCast_neg, ← h1]; grind, by omega⟩
theorem Sz.sub (h : Sz D M a) (k : Sz D M' b) : Sz D (M + M') (a - b) := by
  have := h.add k.neg
  rwa [show a + -b = a - b by grind] at this
theorem Sz.mul (h : Sz D M a) (k : Sz D' M' b) : Sz (D * D') (M * M') (a * b) := by
  obtain ⟨z, h1, h2⟩ := h
  obtain ⟨y, k1, k2⟩ := k
  refine ⟨z * y, by rw [Rat.intCast_mul, ← h1, ← k1, Rat.natCast_mul]; grind, ?_⟩
  rw [Int.natAbs_mul]
  exact Nat.mul_le_mul h2 k2
theorem Sz.int (z : Int) : Sz 1 z.natAbs (z : Rat) := ⟨z, by have : ((1 : Nat) : Rat) = 1 := rfl; rw [this]; grind, Nat.le_refl _⟩
theorem Sz.intMul (z : Int) (k : Sz D M b) : Sz D (z.natAbs * M) ((z : Rat) * b) := by
  have := (Sz.int z).mul k
  rwa [Nat.one_mul] at this
theorem Sz.lift (h : Sz D M a) (c : Nat) : Sz (c * D) (c * M) a := by
  obtain ⟨z, h1, h2⟩ := h
  refine ⟨c * z, by rw [Rat.intCast_mul, ← h1, Rat.natCast_mul]; have : ((c : Int) : Rat) = (c : Rat) := rfl; rw [this]; grind, ?_⟩
  rw [Int.natAbs_mul]
  exact Nat.mul_le_mul (by omega) h2
end
/-! ### * and // -/
theorem pow4 : 0 < BIG := Nat.two_pow_pos 4000
theorem mul_big {i j : Int} (h : i.natAbs < 2 ^ 8000) (k : j.natAbs < 2 ^ 8000) : mulW i j = true := by
  refine hid (.inr (.inr ?_))
  exact wide_mul h k (by decide) (by decide) (by decide)
theorem mul_ok {i j : Int} (h : i.natAbs < BIG) (k : j.natAbs < BIG) : mulW i j = true := by
  have : BIG ≤ 2 ^ 8000 := Nat.pow_le_pow_right (by decide) (by decide)
  exact mul_big (by omega) (by omega)
theorem div_big {j : Int} (h : 0 < j) (k : j.natAbs < 2 ^ 9000) : divW j = true := hid (.inr (wide_div (i := 0) h k (by decide) (by decide)))
@[simp] theorem d_mulW (i j : Int) (h : mulW i j = true) : gMulW (.int i) (.int j) = some (.val (.int (i * j))) := by
  show (if mulW i j = true then _ else _) = _
  rw [if_pos h]
@[simp] theorem d_divW (i j : Int) (h : divW j = true) : gDivW (.int i) (.int j) = some (.val (.int (i.fdiv j))) := by
  show (if divW j = true then _ else _) = _
  rw [if_pos h]
theorem mul_small {i j : Int} (h : i.natAbs ≤ 1048576) : mulW i j = true := hid (.inl ⟨by omega, by omega⟩)
theorem mul_small' {i j : Int} (h : j.natAbs ≤ 1048576) : mulW i j = true := hid (.inr (.inl ⟨by omega, by omega⟩))
/-! ### the fraction of two integers -/
theorem fr_pos {p q : Int} (h : 0 < q) : fr (Rat.divInt p q) = .tuple [.int (p.fdiv (Nat.gcd p.natAbs q.natAbs : Nat)), .int (q.fdiv (Nat.gcd p.natAbs q.natAbs : Nat))] := by
  have g : 0 < Nat.gcd p.natAbs q.natAbs := Nat.gcd_pos_of_pos_right _ (by omega)
  have e : q.gcd p = Nat.gcd p.natAbs q.natAbs := Nat.gcd_comm _ _
  unfold fr
  rw [Rat.num_divInt, Rat.den_divInt, if_neg (by omega), Int.sign_eq_one_of_pos h, Int.one_mul, e, Int.fdiv_eq_ediv_of_nonneg _ (by omega), Int.fdiv_eq_ediv_of_nonneg _ (by omega)]
  congr 4
  have : (q : Int) = (q.natAbs : Int) := by omega
  conv => rhs; rw [this]
  exact Int.natCast_ediv _ _
theorem divInt_neg' (p q : Int) : Rat.divInt (-p) (-q) = Rat.divInt p q := by
  rw [Rat.divInt_eq_div, Rat.divInt_eq_div, Rat.intCast_neg, Rat.intCast_neg]; grind
theorem fr_neg {p q : Int} (h : q < 0) : fr (Rat.divInt p q) = .tuple [.int ((-p).fdiv (Nat.gcd p.natAbs q.natAbs : Nat)), .int ((-q).fdiv (Nat.gcd p.natAbs q.natAbs : Nat))] := by
  have := fr_pos (p := -p) (q := -q) (by omega)
  rwa [Int.natAbs_neg, Int.natAbs_neg, divInt_neg'] at this
theorem div_den (a : Rat) : (a.num : Rat) = a * (a.den : Rat) := by
  have := Rat.num_divInt_den a
  rw [Rat.divInt_eq_div] at this
  have h : ((a.den : Int) : Rat) = (a.den : Rat) := rfl
  rw [h] at this
  have hne : (a.den : Rat) ≠ 0 := fun e => by have := Rat.natCast_eq_zero_iff.mp e; have := a.den_pos; omega
  grind
theorem den_ne (a : Rat) : (a.den : Rat) ≠ 0 := fun e => by have := Rat.natCast_eq_zero_iff.mp e; have := a.den_pos; omega
theorem fsum (a b : Rat) : Rat.divInt (a.num * (b.den : Int) + b.num * (a.den : Int)) ((a.den : Int) * (b.den : Int)) = a + b := by
  rw [Rat.divInt_eq_div, Rat.intCast_add, Rat.intCast_mul, Rat.intCast_mul, Rat.intCast_mul, div_den a, div_den b]
  have h1 : ((a.den : Int) : Rat) = (a.den : Rat) := rfl
  have h2 : ((b.den : Int) : Rat) = (b.den : Rat) := rfl
  have := den_ne a
  have := den_ne b
  rw [h1, h2]; grind
theorem fless (a b : Rat) : Rat.divInt (a.num * (b.den : Int) - b.num * (a.den : Int)) ((a.den : Int) * (b.den : Int)) = a - b := by
  have := fsum a (-b)
  rw [Rat.neg_num, Rat.neg_den, Int.neg_mul, ← Int.sub_eq_add_neg] at this
  rw [this]; grind
theorem fmul (a b : Rat) : Rat.divInt (a.num * b.num) ((a.den : Int) * (b.den : Int)) = a * b := by
  rw [Rat.divInt_eq_div, Rat.intCast_mul, Rat.intCast_mul, div_den a, div_den b]
  have h1 : ((a.den : Int) : Rat) = (a.den : Rat) := rfl
  have h2 : ((b.den : Int) : Rat) = (b.den : Rat) := rfl
  have := den_ne a
  have := den_ne b
  rw [h1, h2]; grind
theorem fby {a b : Rat} (hb : b ≠ 0) : Rat.divInt (a.num * (b.den : Int)) ((a.den : Int) * b.num) = a / b := by
  rw [Rat.divInt_eq_div, Rat.intCast_mul, Rat.intCast_mul, div_den a, div_den b]
  have h1 : ((a.den : Int) : Rat) = (a.den : Rat) := rfl
  have h2 : ((b.den : Int) : Rat) = (b.den : Rat) := rfl
  have := den_ne a
  have := den_ne b
  rw [h1, h2]; grind
end EL
/-! R5: rows through worths, polynomials. -/
namespace EL
namespace R
/-! ### differences -/
def df (w : Nat → Rat) : Nat → Nat → Rat
  | 0, j => w j
  | k + 1, j => df w k (j + 1) - df w k j
theorem df_newton (w : Nat → Rat) : ∀ (n k j : Nat), df w k (j + n) = S (n + 1) fun i => cr (n : Rat) i * df w (k + i) j
  | 0, k, j => by
    show df w k j = 0 + cr ((0 : Nat) : Rat) 0 * df w (k + 0) j
    have c0 : cr ((0 : Nat) : Rat) 0 = 1 := rfl
    rw [c0, Nat.add_zero]; grind
  | n + 1, k, j => by
    have h1 := df_newton w n k j
    have h2 := df_newton w n (k + 1) j
    have e : df w k (j + (n + 1)) = df w k (j + n) + df w (k + 1) (j + n) := by
      show _ = df w k (j + n) + (df w k (j + n + 1) - df w k (j + n))
      rw [show j + (n + 1) = j + n + 1 by omega]; grind
    rw [e, h1, h2, S_first (fun i => cr ((n + 1 : Nat) : Rat) i * df w (k + i) j), S_first (fun i => cr (n : Rat) i * df w (k + i) j)]
    have c0 : cr ((n + 1 : Nat) : Rat) 0 = 1 := rfl
    have c1 : cr (n : Rat) 0 = 1 := rfl
    rw [c0, c1]
    have e2 : S (n + 1) (fun i => cr ((n + 1 : Nat) : Rat) (i + 1) * df w (k + (i + 1)) j) = S (n + 1) (fun i => cr (n : Rat) (i + 1) * df w (k + (i + 1)) j) + S (n + 1) (fun i => cr (n : Rat) i * df w (k + 1 + i) j) := by
      rw [← S_add]
      exact S_congr fun i _ => by rw [cast1, cr_pascal, show k + 1 + i = k + (i + 1) by omega]; grind
    have e3 : S (n + 1) (fun i => cr (n : Rat) (i + 1) * df w (k + (i + 1)) j) = S n (fun i => cr (n : Rat) (i + 1) * df w (k + (i + 1)) j) := by
      show S n _ + cr (n : Rat) (n + 1) * _ = _
      rw [cr_nat0 n (n + 1) (by omega)]; grind
    rw [e2, e3]; grind
/-- the row through worths -/
def thr (l : List Rat) : List Rat := (List.range l.length).map fun k => df (co l) k 0
theorem thr_len (l : List Rat) : (thr l).length = l.length := by simp [thr]
theorem co_mapr (m : Nat) (f : Nat → Rat) (k : Nat) : co ((List.range m).map f) k = if k < m then f k else 0 := by
  unfold co
  simp only [List.getD, List.getElem?_map]
  split
  · rename_i h; simp [List.getElem?_range, h]
  · rename_i h; simp [List.getElem?_range, h]
theorem co_thr (l : List Rat) (k : Nat) : co (thr l) k = if k < l.length then df (co l) k 0 else 0 := co_mapr _ _ _
theorem ev_thr (l : List Rat) (n : Nat) (h : n < l.length) : ev (thr l) (n : Rat) = co l n := by
  rw [ev_nat]
  have := df_newton (co l) n 0 0
  rw [Nat.zero_add] at this
  have e : df (co l) 0 n = co l n := rfl
  rw [e] at this
  rw [this]
  exact S_congr fun i hi => by rw [co_thr, if_pos (by omega), Nat.zero_add]
/-- one row of at most so many members -/
theorem co_uniqN {a b : List Rat} {N : Nat} (h : ∀ n : Nat, n < N → ev a (n : Rat) = ev b (n : Rat)) : ∀ k, k < N → co a k = co b k := by
  intro k
  induction k using Nat.strongRecOn with
  | ind k ih =>
    intro hk
    have e := h k hk
    rw [ev_nat, ev_nat] at e
    unfold S at e
    rw [S_congr (f := fun j => cr (k : Rat) j * co a j) (g := fun j => cr (k : Rat) j * co b j) fun j hj => by rw [ih j hj (by omega)]] at e
    dsimp only at e
    rw [cr_self] at e
    grind
theorem row_uniqN {a b : List Rat} {N : Nat} (ha : Tr a) (hb : Tr b) (la : a.length ≤ N) (lb : b.length ≤ N) (h : ∀ n : Nat, n < N → ev a (n : Rat) = ev b (n : Rat)) : a = b :=
  tr_uniq ha hb fun k => by
    by_cases q : k < N
    · exact co_uniqN h k q
    · rw [co_out (by omega), co_out (by omega)]
/-! ### polynomials -/
def pe : List Rat → Rat → Rat
  | [], _ => 0
  | c :: p, x => c + x * pe p x
/-- without x - a -/
def qt (a : Rat) : List Rat → List Rat
  | [] => []
  | _ :: p => pe p a :: qt a p
theorem qt_len (a : Rat) : ∀ p : List Rat, (qt a p).length = p.length
  | [] => rfl
  | _ :: p => by simp [qt, qt_len a p]
theorem qt_pe (a x : Rat) : ∀ p : List Rat, pe p x = pe p a + (x - a) * pe (qt a p) x
  | [] => by unfold pe qt pe; grind
  | c :: p => by
    have ih := qt_pe a x p
    show c + x * pe p x = (c + a * pe p a) + (x - a) * (pe p a + x * pe (qt a p) x)
    grind
theorem pe_zero {p : List Rat} (h : ∀ k, co p k = 0) (x : Rat) : pe p x = 0 := by
  induction p with
  | nil => rfl
  | cons c p ih =>
    have h0 : c = 0 := h 0
    have : pe p x = 0 := ih fun k => h (k + 1)
    show c + x * pe p x = 0
    rw [this, h0]; grind
theorem co_cons (c : Rat) (p : List Rat) (k : Nat) : co (c :: p) (k + 1) = co p k := rfl
theorem qt_zero (a : Rat) : ∀ p : List Rat, (∀ k, co (qt a p) k = 0) → pe p a = 0 → ∀ k, co p k = 0
  | [], _, _ => fun k => co_out (by simp)
  | c :: p, h, h0 => by
    have e : pe p a = 0 := h 0
    have ih := qt_zero a p (fun k => h (k + 1)) e
    have h0 : c + a * pe p a = 0 := h0
    intro k
    cases k with
    | zero => show c = 0; rw [e] at h0; grind
    | succ k => exact ih k
/-- as many roots as members: nothing -/
theorem roots : ∀ (m : Nat) (p : List Rat), (∀ k, m ≤ k → co p k = 0) → (∀ n : Nat, n < m → pe p (n : Rat) = 0) → ∀ k, co p k = 0
  | 0, p, h, _ => fun k => h k (by omega)
  | m + 1, p, h, r => by
    have hq : ∀ k, co (qt (m : Rat) p) k = 0 := by
      refine roots m (qt (m : Rat) p) (fun k hk => ?_) fun n hn => ?_
      · -- the quotient has one member less
        have key : ∀ (p : List Rat) (m k : Nat), (∀ k, m + 1 ≤ k → co p k = 0) → m ≤ k → ∀ a : Rat, co (qt a p) k = 0 := by
          intro p
          induction p with
          | nil => intro m k _ _ a; exact co_out (by simp [qt])
          | cons c p ih =>
            intro m k hz hk a
            cases k with
            | zero =>
              show pe p a = 0
              exact pe_zero (fun j => hz (j + 1) (by omega)) a
            | succ k =>
              show co (qt a p) k = 0
              cases m with
              | zero => exact ih 0 k (fun j hj => hz (j + 1) (by omega)) (by omega) a
              | succ m => exact ih m k (fun j hj => hz (j + 1) (by omega)) (by omega) a
        exact key p m k h hk (m : Rat)
      · have e := qt_pe (m : Rat) (n : Rat) p
        rw [r n (by omega), r m (by omega)] at e
        have hne : (n : Rat) - (m : Rat) ≠ 0 := fun z => by
          have : (n : Rat) = (m : Rat) := by grind
          have := Rat.natCast_inj.mp this
          omega
        grind
    exact qt_zero (m : Rat) p hq (r m (by omega))
def psub (a b : List Rat) : List Rat := List.zipWith (· - ·) (wd a (max a.length b.length)) (wd b (max a.length b.length))
theorem co_psub (a b : List Rat) (k : Nat) : co (psub a b) k = co a k - co b k := by
  unfold psub
  rw [co_zip _ (by rw [wd_len (by omega), wd_len (by omega)]) (by grind), co_wd, co_wd]
theorem pe_S (x : Rat) : ∀ (p : List Rat) (m : Nat), p.length ≤ m → ∃ f : Nat → Rat, f 0 = 1 ∧ (∀ k, f (k + 1) = x * f k) ∧ pe p x = S m fun k => f k * co p k := by
  intro p m hm
  let f : Nat → Rat := fun k => Nat.rec 1 (fun _ y => x * y) k
  refine ⟨f, rfl, fun _ => rfl, ?_⟩
  have key : ∀ (p : List Rat) (j m : Nat), p.length ≤ m → f j * pe p x = S m fun k => f (j + k) * co p k := by
    intro p
    induction p with
    | nil =>
      intro j m _
      rw [S_zero' fun k _ => by rw [co_out (by simp)]; grind]
      show f j * 0 = 0
      grind
    | cons c p ih =>
      intro j m hm
      obtain ⟨m, rfl⟩ : ∃ n, m = n + 1 := ⟨m - 1, by simp at hm; omega⟩
      rw [S_first]
      have h := ih (j + 1) m (by simp at hm; omega)
      have e : S m (fun k => f (j + (k + 1)) * co (c :: p) (k + 1)) = S m (fun k => f (j + 1 + k) * co p k) := S_congr fun k _ => by rw [co_cons, show j + (k + 1) = j + 1 + k by omega]
      rw [e, ← h]
      show f j * (c + x * pe p x) = f (j + 0) * c + x * f j * pe p x
      rw [Nat.add_zero]; grind
  have := key p 0 m hm
  have f0 : f 0 = 1 := rfl
  rw [f0] at this
  rw [S_congr (g := fun k => f (0 + k) * co p k) fun k _ => by rw [Nat.zero_add], ← this]; grind
theorem pe_of_co {a b : List Rat} {x : Rat} (h : ∀ k, co a k = co b k) : pe a x = pe b x := by
  obtain ⟨f, f0, f1, e1⟩ := pe_S x a (a.length + b.length) (by omega)
  obtain ⟨g, g0, g1, e2⟩ := pe_S x b (a.length + b.length) (by omega)
  have fg : ∀ k, f k = g k := fun k => by
    induction k with
    | zero => rw [f0, g0]
    | succ k ih => rw [f1, g1, ih]
  rw [e1, e2]
  exact S_congr fun k _ => by rw [fg, h]
theorem pe_lin {a b d : List Rat} {x s t : Rat} (h : ∀ k, co d k = s * co a k + t * co b k) : pe d x = s * pe a x + t * pe b x := by
  obtain ⟨f, f0, f1, e1⟩ := pe_S x a (a.length + b.length + d.length) (by omega)
  obtain ⟨g, g0, g1, e2⟩ := pe_S x b (a.length + b.length + d.length) (by omega)
  obtain ⟨q, q0, q1, e3⟩ := pe_S x d (a.length + b.length + d.length) (by omega)
  have fg : ∀ k, g k = f k := fun k => by
    induction k with
    | zero => rw [f0, g0]
    | succ k ih => rw [f1, g1, ih]
  have fq : ∀ k, q k = f k := fun k => by
    induction k with
    | zero => rw [f0, q0]
    | succ k ih => rw [f1, q1, ih]
  rw [e1, e2, e3, ← S_mul, ← S_mul, ← S_add]
  exact S_congr fun k _ => by rw [fg, fq, h]; grind
theorem poly_uniq {a b : List Rat} {N : Nat} (ha : Tr a) (hb : Tr b) (la : a.length ≤ N) (lb : b.length ≤ N) (h : ∀ n : Nat, n < N → pe a (n : Rat) = pe b (n : Rat)) : a = b := by
  have z := roots N (psub a b) (fun k hk => by rw [co_psub, co_out (by omega), co_out (by omega)]; grind) (fun n hn => by
    have := pe_lin (a := a) (b := b) (d := psub a b) (x := (n : Rat)) (s := 1) (t := -1) fun k => by rw [co_psub]; grind
    rw [this, h n hn]; grind)
  exact tr_uniq ha hb fun k => by have := z k; rw [co_psub] at this; grind
/-! ### n over k as a polynomial -/
/-- x f - k f, by k and 1 -/
def fl : Nat → List Rat
  | 0 => [1]
  | k + 1 => (List.zipWith (fun x y => x - (k : Rat) * y) (0 :: fl k) (fl k ++ [0])).map fun z => 1 / ((k : Rat) + 1) * z
theorem fl_len : ∀ k, (fl k).length = k + 1
  | 0 => rfl
  | k + 1 => by simp [fl, fl_len k]
theorem co_shift (p : List Rat) (k : Nat) : co (0 :: p) k = if k = 0 then 0 else co p (k - 1) := by
  cases k with
  | zero => rfl
  | succ k => rw [if_neg (by omega)]; rfl
theorem pe_shift (p : List Rat) (x : Rat) : pe (0 :: p) x = x * pe p x := by show 0 + x * pe p x = _; grind
theorem co_snoc (p : List Rat) (k : Nat) : co (p ++ [0]) k = co p k := by
  rw [co_app]
  split
  · rfl
  · rw [co_out (l := p) (by omega)]; exact co_rep 1 _
theorem co_fl (k j : Nat) : co (fl (k + 1)) j = 1 / ((k : Rat) + 1) * (co (0 :: fl k) j - (k : Rat) * co (fl k) j) := by
  show co ((List.zipWith (fun x y => x - (k : Rat) * y) (0 :: fl k) (fl k ++ [0])).map fun z => 1 / ((k : Rat) + 1) * z) j = _
  rw [co_map _ (by grind), co_zip _ (by simp) (by grind), co_snoc]
theorem pe_fl (x : Rat) : ∀ k, pe (fl k) x = cr x k
  | 0 => by show (1 : Rat) + x * 0 = 1; grind
  | k + 1 => by
    have h := pe_lin (a := 0 :: fl k) (b := fl k) (d := fl (k + 1)) (x := x) (s := 1 / ((k : Rat) + 1)) (t := -(1 / ((k : Rat) + 1)) * (k : Rat)) fun j => by rw [co_fl]; grind
    rw [h, pe_shift, pe_fl x k]
    have := cr_step x k
    have := k1_ne k
    grind
theorem fl_top : ∀ k, co (fl k) k ≠ 0
  | 0 => by show (1 : Rat) ≠ 0; grind
  | k + 1 => by
    have ih := fl_top k
    rw [co_fl, co_shift, if_neg (by omega), show k + 1 - 1 = k by omega, co_out (l := fl k) (k := k + 1) (by rw [fl_len]; omega)]
    have := k1_ne k
    intro z
    have : co (fl k) k = 0 := by grind
    exact ih this
/-- the polynomial of a row, by the first members -/
def ply (l : List Rat) (m : Nat) (j : Nat) : Rat := S m fun k => co l k * co (fl k) j
def pol (l : List Rat) : List Rat := (List.range l.length).map (ply l l.length)
theorem pol_len (l : List Rat) : (pol l).length = l.length := by simp [pol]
theorem co_pol (l : List Rat) (j : Nat) : co (pol l) j = ply l l.length j := by
  have e : co (pol l) j = if j < l.length then ply l l.length j else 0 := co_mapr _ _ _
  rw [e]
  split
  · rfl
  · exact (S_zero' fun k hk => by rw [co_out (l := fl k) (by rw [fl_len]; omega)]; grind).symm
theorem pe_pol (l : List Rat) (x : Rat) : pe (pol l) x = ev l x := by
  obtain ⟨f, f0, f1, e1⟩ := pe_S x (pol l) (l.length + 1) (by rw [pol_len]; omega)
  rw [e1, S_congr (g := fun j => S l.length fun k => f j * (co l k * co (fl k) j)) fun j _ => by rw [co_pol]; unfold ply; rw [S_mul], S_swap (fun j k => f j * (co l k * co (fl k) j))]
  unfold ev
  refine S_congr fun k hk => ?_
  have a1 : S (l.length + 1) (fun j => f j * (co l k * co (fl k) j)) = co l k * S (l.length + 1) (fun j => f j * co (fl k) j) := by
    rw [← S_mul]
    exact S_congr fun j _ => by grind
  obtain ⟨g, g0, g1, e2⟩ := pe_S x (fl k) (l.length + 1) (by rw [fl_len]; omega)
  have fg : ∀ k, g k = f k := fun k => by
    induction k with
    | zero => rw [f0, g0]
    | succ k ih => rw [f1, g1, ih]
  have a2 : S (l.length + 1) (fun j => f j * co (fl k) j) = cr x k := by
    rw [← pe_fl, e2]
    exact S_congr fun j _ => by rw [fg]
  rw [a1, a2]; grind
theorem pol_tr {l : List Rat} (h : Tr l) : Tr (pol l) := by
  rcases h with h | h
  · left; subst h; rfl
  · by_cases z : l.length = 0
    · left; have := pol_len l; rw [z] at this; exact List.length_eq_zero_iff.mp this
    · right
      rw [pol_len, co_pol]
      unfold ply
      have o : S l.length (fun k => co l k * co (fl k) (l.length - 1)) = co l (l.length - 1) * co (fl (l.length - 1)) (l.length - 1) := S_one (i := l.length - 1) (by omega) fun k hk hne => by
        rw [co_out (l := fl k) (by rw [fl_len]; omega)]; grind
      rw [o]
      have := fl_top (l.length - 1)
      grind
end R
end EL
/-! R6: how great differences, polynomials are; whole ones. -/
namespace EL
open R
variable [KC]
theorem df_sz {D M : Nat} {w : Nat → Rat} (h : ∀ j, Sz D M (w j)) : ∀ (k j : Nat), Sz D (2 ^ k * M) (df w k j)
  | 0, j => by rw [Nat.pow_zero, Nat.one_mul]; exact h j
  | k + 1, j => by
    have := (df_sz h k (j + 1)).sub (df_sz h k j)
    rw [Nat.pow_succ, Nat.mul_right_comm, Nat.mul_comm _ 2, Nat.two_mul]
    exact this
theorem Sz.divn {D M : Nat} {q : Rat} (h : Sz D M q) (k : Nat) : Sz ((k + 1) * D) M (1 / ((k : Rat) + 1) * q) := by
  obtain ⟨z, h1, h2⟩ := h
  refine ⟨z, ?_, h2⟩
  rw [Rat.natCast_mul, cast1]
  have := k1_ne k
  rw [← h1]; grind
def fc : Nat → Nat
  | 0 => 1
  | k + 1 => (k + 1) * fc k
theorem fl_sz : ∀ (k j : Nat), Sz (fc k) (fc k) (co (fl k) j)
  | 0, j => by
    cases j with
    | zero => exact ⟨1, by show ((1 : Nat) : Rat) * 1 = ((1 : Int) : Rat); have a : ((1 : Nat) : Rat) = 1 := rfl; have b : ((1 : Int) : Rat) = 1 := rfl; rw [a, b]; grind, by decide⟩
    | succ j => rw [co_out (by rw [fl_len]; omega)]; exact Sz.zero.mono (Nat.zero_le _)
  | k + 1, j => by
    rw [co_fl]
    have h1 : Sz (fc k) (fc k) (co (0 :: fl k) j) := by
      rw [co_shift]
      split
      · exact Sz.zero.mono (Nat.zero_le _)
      · exact fl_sz k _
    have h2 := Sz.intMul (k : Int) (fl_sz k j)
    have c : (((k : Nat) : Int) : Rat) = (k : Rat) := rfl
    rw [c] at h2
    have h3 := (h1.sub h2).divn k
    refine h3.mono ?_
    show fc k + ((k : Int)).natAbs * fc k ≤ (k + 1) * fc k
    rw [Int.natAbs_natCast, Nat.succ_mul]; omega
/-- whole numbers -/
def Wh (q : Rat) : Prop := ∃ z : Int, q = (z : Rat)
theorem wh_den {q : Rat} : Wh q ↔ q.den = 1 := by
  constructor
  · rintro ⟨z, rfl⟩; rfl
  · intro h
    refine ⟨q.num, ?_⟩
    have := div_den q
    rw [h] at this
    have c : ((1 : Nat) : Rat) = 1 := rfl
    rw [c] at this; grind
theorem Wh.add {a b : Rat} (h : Wh a) (k : Wh b) : Wh (a + b) := by obtain ⟨z, rfl⟩ := h; obtain ⟨y, rfl⟩ := k; exact ⟨z + y, by rw [Rat.intCast_add]⟩
theorem Wh.sub {a b : Rat} (h : Wh a) (k : Wh b) : Wh (a - b) := by obtain ⟨z, rfl⟩ := h; obtain ⟨y, rfl⟩ := k; exact ⟨z - y, by rw [Int.sub_eq_add_neg, Rat.intCast_add, Rat.intCast_neg]; grind⟩
theorem Wh.mul {a b : Rat} (h : Wh a) (k : Wh b) : Wh (a * b) := by obtain ⟨z, rfl⟩ := h; obtain ⟨y, rfl⟩ := k; exact ⟨z * y, by rw [Rat.intCast_mul]⟩
theorem Wh.zero : Wh 0 := ⟨0, rfl⟩
theorem Wh.S {f : Nat → Rat} : ∀ {m : Nat}, (∀ k, k < m → Wh (f k)) → Wh (S m f)
  | 0, _ => Wh.zero
  | m + 1, h => (Wh.S fun k hk => h k (by omega)).add (h m (by omega))
theorem wh_cr (n : Int) (k : Nat) : Wh (cr (n : Rat) k) := cr_int k n
theorem wh_ev {l : List Rat} (h : ∀ k, Wh (co l k)) (n : Int) : Wh (ev l (n : Rat)) := Wh.S fun k _ => (wh_cr n k).mul (h k)
/-- whole at as many numbers as members: whole members -/
theorem wh_back {l : List Rat} {N : Nat} (hl : l.length ≤ N) (h : ∀ n : Nat, n < N → Wh (ev l (n : Rat))) : ∀ k, Wh (co l k) := by
  intro k
  by_cases q : k < N
  · induction k using Nat.strongRecOn with
    | ind k ih =>
      have e := h k q
      rw [ev_nat] at e
      unfold R.S at e
      dsimp only at e
      rw [cr_self] at e
      have p : Wh (R.S k fun j => cr (k : Rat) j * co l j) := Wh.S fun j hj => (wh_cr (k : Int) j).mul (ih j hj (by omega))
      have := e.sub p
      rwa [show (R.S k (fun j => cr (k : Rat) j * co l j) + 1 * co l k) - R.S k (fun j => cr (k : Rat) j * co l j) = co l k by grind] at this
  · rw [co_out (by omega)]; exact Wh.zero
/-- so many times a whole number -/
def Dv (m : Int) (q : Rat) : Prop := Wh (q / (m : Rat))
theorem dv_int {m z : Int} (hm : m ≠ 0) : Dv m (z : Rat) ↔ m ∣ z := by
  have hm' : (m : Rat) ≠ 0 := fun e => hm (by have : ((m : Int) : Rat) = ((0 : Int) : Rat) := e; exact Rat.intCast_inj.mp this)
  constructor
  · rintro ⟨y, hy⟩
    refine ⟨y, ?_⟩
    have : ((z : Int) : Rat) = ((m * y : Int) : Rat) := by rw [Rat.intCast_mul]; grind
    exact Rat.intCast_inj.mp this
  · rintro ⟨y, rfl⟩
    refine ⟨y, ?_⟩
    rw [Rat.intCast_mul]; grind
theorem ev_div (l : List Rat) (c n : Rat) : ev (l.map fun x => x / c) n = ev l n / c := by
  have h : ∀ k, co (l.map fun x => x / c) k = co l k / c := fun k => co_map (fun x => x / c) (by grind) l k
  unfold ev
  rw [List.length_map]
  have : S l.length (fun k => cr n k * co (l.map fun x => x / c) k) = S l.length (fun k => 1 / c * (cr n k * co l k)) := S_congr fun k _ => by rw [h]; grind
  rw [this, S_mul]; grind
theorem dv_all {l : List Rat} {m : Int} {N : Nat} (hl : l.length ≤ N) : (∀ n : Nat, n < N → Dv m (ev l (n : Rat))) ↔ ∀ k, Dv m (co l k) := by
  have h : ∀ k, co (l.map fun x => x / (m : Rat)) k = co l k / (m : Rat) := fun k => co_map (fun x => x / (m : Rat)) (by grind) l k
  constructor
  · intro a k
    have := wh_back (l := l.map fun x => x / (m : Rat)) (N := N) (by rw [List.length_map]; exact hl) (fun n hn => by rw [ev_div]; exact a n hn) k
    rwa [h] at this
  · intro a n _
    have := wh_ev (l := l.map fun x => x / (m : Rat)) (fun k => by rw [h]; exact a k) (n : Int)
    rw [ev_div] at this
    exact this
end EL
/-! R7: means: a row and early fractions. -/
namespace EL
open R
/-- what a mean is at n -/
def mat (l m : List Rat) (n : Nat) : Rat := if n < m.length then co m n else ev l (n : Rat)
/-- the early fractions' last one is not the row's -/
def Pe (l m : List Rat) : Prop := m = [] ∨ co m (m.length - 1) ≠ ev l ((m.length - 1 : Nat) : Rat)
instance (l m : List Rat) : Decidable (Pe l m) := by unfold Pe; exact inferInstance
theorem rows_late {a b : List Rat} (ha : Tr a) (hb : Tr b) (E N : Nat) (la : a.length ≤ N) (lb : b.length ≤ N) (h : ∀ j : Nat, j < N → ev a ((E + j : Nat) : Rat) = ev b ((E + j : Nat) : Rat)) : a = b := by
  have hs : shl a (E : Rat) = shl b (E : Rat) := by
    refine row_uniqN (shl_tr _ ha) (shl_tr _ hb) (by rw [shl_len]; exact la) (by rw [shl_len]; exact lb) fun n hn => ?_
    rw [ev_shl, ev_shl]
    have := h n hn
    rw [Rat.natCast_add] at this
    rw [show (n : Rat) + (E : Rat) = (E : Rat) + (n : Rat) by grind]
    exact this
  refine row_uniq ha hb fun n => ?_
  have h1 := ev_shl a (E : Rat) ((n : Rat) - (E : Rat))
  have h2 := ev_shl b (E : Rat) ((n : Rat) - (E : Rat))
  rw [show (n : Rat) - (E : Rat) + (E : Rat) = (n : Rat) by grind] at h1 h2
  rw [← h1, ← h2, hs]
theorem early_len {l a b : List Rat} (hb : Pe l b) (h : ∀ n, n < b.length → mat l a n = mat l b n) : b.length ≤ a.length := by
  by_cases q : b.length ≤ a.length
  · exact q
  · exfalso
    rcases hb with rfl | hb
    · simp at q
    · have := h (b.length - 1) (by omega)
      unfold mat at this
      rw [if_neg (by omega), if_pos (by omega)] at this
      exact hb this.symm
theorem mean_uniq {l m l' m' : List Rat} (hl : Tr l) (hl' : Tr l') (hm : Pe l m) (hm' : Pe l' m') (h : ∀ n, n < max m.length m'.length + max l.length l'.length + 1 → mat l m n = mat l' m' n) : l = l' ∧ m = m' := by
  have e : l = l' := by
    refine rows_late hl hl' (max m.length m'.length) (max l.length l'.length) (by omega) (by omega) fun j hj => ?_
    have := h (max m.length m'.length + j) (by omega)
    unfold mat at this
    rw [if_neg (by omega), if_neg (by omega)] at this
    exact this
  subst e
  refine ⟨rfl, ?_⟩
  have h1 := early_len hm' (a := m) fun n hn => h n (by omega)
  have h2 := early_len hm (a := m') fun n hn => (h n (by omega)).symm
  refine List.ext_getElem? fun n => ?_
  by_cases q : n < m.length
  · have := h n (by omega)
    unfold mat at this
    rw [if_pos q, if_pos (by omega)] at this
    unfold co at this
    have a1 : m[n]? = some m[n] := List.getElem?_eq_getElem q
    have a2 : m'[n]? = some m'[n] := List.getElem?_eq_getElem (by omega)
    simp only [List.getD, a1, a2, Option.getD_some] at this
    rw [a1, a2, this]
  · rw [List.getElem?_eq_none (by omega), List.getElem?_eq_none (by omega)]
/-- what the row tells left out behind -/
def cutN (l m : List Rat) : Nat → Nat
  | 0 => 0
  | k + 1 => if co m k = ev l (k : Rat) then cutN l m k else k + 1
def cutE (l m : List Rat) : List Rat := m.take (cutN l m m.length)
theorem cutN_le (l m : List Rat) : ∀ k, cutN l m k ≤ k
  | 0 => Nat.le_refl _
  | k + 1 => by
    unfold cutN
    have := cutN_le l m k
    split <;> omega
theorem cutN_top (l m : List Rat) : ∀ k, cutN l m k = 0 ∨ co m (cutN l m k - 1) ≠ ev l ((cutN l m k - 1 : Nat) : Rat)
  | 0 => .inl rfl
  | k + 1 => by
    unfold cutN
    split
    · exact cutN_top l m k
    · rename_i h; exact .inr h
theorem cutE_pe (l m : List Rat) : Pe l (cutE l m) := by
  unfold Pe cutE
  have le := cutN_le l m m.length
  rcases cutN_top l m m.length with h | h
  · left; rw [h]; rfl
  · by_cases z : cutN l m m.length = 0
    · left; rw [z]; rfl
    · right
      rw [List.length_take, show min (cutN l m m.length) m.length = cutN l m m.length by omega, co_take, if_pos (by omega)]
      exact h
end EL
namespace EL
open PySem PySem.Spec PyProof.Rows L2
namespace Law
def top (i : Nat) : Stmt := PySem.Challenge.pw_roundvalues_k36_rows_and_means_judged.main.body.getD i (.Pass ⟨0, 0, 0, 0⟩)
abbrev sOpen : Stmt := top 23
abbrev sPick : Stmt := top 24


/-! ### the source's fields -/
theorem nk : ¬ ((.inr "cells" : Key) = .inr "left") ∧ ¬ ((.inr "cells" : Key) = .inr "mixed") ∧ ¬ ((.inr "cells" : Key) = .inr "turn") ∧ ¬ ((.inr "left" : Key) = .inr "mixed") ∧ ¬ ((.inr "left" : Key) = .inr "turn") ∧ ¬ ((.inr "mixed" : Key) = .inr "turn") := by decide +kernel
theorem nk' : ¬ ((.inr "left" : Key) = .inr "cells") ∧ ¬ ((.inr "mixed" : Key) = .inr "cells") ∧ ¬ ((.inr "turn" : Key) = .inr "cells") ∧ ¬ ((.inr "mixed" : Key) = .inr "left") ∧ ¬ ((.inr "turn" : Key) = .inr "left") ∧ ¬ ((.inr "turn" : Key) = .inr "mixed") := by decide +kernel
theorem srcCells {c : Addr} {S : Src} : valV (srcDict c S) (.inr "cells" : Key) = some (.ref c) := by simp [srcDict, valV]
theorem srcLeft {c : Addr} {S : Src} : valV (srcDict c S) (.inr "left" : Key) = some (.int S.left) := by simp [srcDict, valV, List.find?_cons, nk.1]
theorem srcMixed {c : Addr} {S : Src} : valV (srcDict c S) (.inr "mixed" : Key) = some (.int S.mixed) := by simp [srcDict, valV, List.find?_cons, nk.2.1, nk.2.2.2.1]
theorem srcTurn {c : Addr} {S : Src} : valV (srcDict c S) (.inr "turn" : Key) = some (.int S.turn) := by simp [srcDict, valV, List.find?_cons, nk.2.2.1, nk.2.2.2.2.1, nk.2.2.2.2.2]
theorem putLeft {c : Addr} {cs : List Int} {l m t z : Int} : putK (srcDict c ⟨cs, l, m, t⟩) (.inr "left" : Key) (.int z) = srcDict c ⟨cs, z, m, t⟩ := by simp [srcDict, putK, nk.1, nk'.2.2.2.1, nk'.2.2.2.2.1]
theorem putTurn {c : Addr} {cs : List Int} {l m t z : Int} : putK (srcDict c ⟨cs, l, m, t⟩) (.inr "turn" : Key) (.int z) = srcDict c ⟨cs, l, m, z⟩ := by simp [srcDict, putK, nk.2.2.1, nk.2.2.2.2.1, nk.2.2.2.2.2]
theorem dgetS {H : Hp} {p : Addr} {kvs : List (Key × V)} {f : Str} {v : V} (h : H p = some (.dK kvs)) (e : valV kvs (.inr f : Key) = some v) : DGet H p (.str f) (some v) := by rw [← e]; exact DGet.k (k := .inr f) h
theorem dputS {H : Hp} {p c : Addr} {S : Src} {f : Str} {v : V} (h : H p = some (.dK (srcDict c S))) : DPut H p (.str f) v (upd H p (.dK (putK (srcDict c S) (.inr f) v))) := DPut.k (k := .inr f) h (by show 4 < sizeLine; rw [sizeLine_eq]; decide)
theorem mod_small (x : Int) : -(2 ^ 64) < x.fmod 998244353 ∧ x.fmod 998244353 < 2 ^ 64 := by
  rw [Int.fmod_eq_emod_of_nonneg _ (by decide)]
  have h1 := Int.emod_nonneg x (b := 998244353) (by decide)
  have h2 := Int.emod_lt_of_pos x (b := 998244353) (by decide)
  omega
/-- cells are taken from the end while less than 2 is left -/
def drainR : List Int → Int → List Int × Int
  | [], l => ([], l)
  | c :: cs, l => if l < 2 then drainR cs c else (c :: cs, l)
theorem drainR_stop {l : Int} (h : ¬ l < 2) : ∀ {cs : List Int}, drainR cs l = (cs, l)
  | [] => rfl
  | c :: cs => by unfold drainR; rw [if_neg h]
theorem drainR_go {l c : Int} {cs : List Int} (h : l < 2) : drainR (c :: cs) l = drainR cs c := by rw [drainR, if_pos h]
/-- one draw below most -/
def pk (m : Int) (S : Src) : Int × Src := if m < 2 then (0, S) else
  if 1 < (drainR S.cells.reverse S.left).2 then ((drainR S.cells.reverse S.left).2.fmod m, ⟨(drainR S.cells.reverse S.left).1.reverse, (drainR S.cells.reverse S.left).2.fdiv m, S.mixed, S.turn⟩)
  else ((((((S.mixed + (S.turn + 1) * 104729).fmod 998244353 * (S.mixed + (S.turn + 1) * 104729).fmod 998244353 + (S.turn + 1) * 17).fmod 2147483647).fdiv 16).fmod m), ⟨(drainR S.cells.reverse S.left).1.reverse, (drainR S.cells.reverse S.left).2, S.mixed, S.turn + 1⟩)
theorem pk_lt {m : Int} (h : 1 ≤ m) (S : Src) : 0 ≤ (pk m S).1 ∧ (pk m S).1 < m := by
  unfold pk
  have key : ∀ x : Int, 0 ≤ x.fmod m ∧ x.fmod m < m := fun x => by
    rw [Int.fmod_eq_emod_of_nonneg _ (by omega)]
    exact ⟨Int.emod_nonneg _ (by omega), Int.emod_lt_of_pos _ (by omega)⟩
  split
  · exact ⟨by show (0 : Int) ≤ 0; decide, by show (0 : Int) < m; omega⟩
  · split
    · exact key _
    · exact key _
def pickOk (m : Int) : Bool := hide (1 ≤ m ∧ m < 1073741824)
def gPick : List D → Src → Option (Rs × Src)
  | [.int m], S => if pickOk m = true then some (.val (.int (pk m S).1), (pk m S).2) else none
  | _, _ => none
theorem gPick_some {ds : List D} {S S' : Src} {r : Rs} (h : gPick ds S = some (r, S')) : ∃ m, ds = [.int m] ∧ 1 ≤ m ∧ m < 1073741824 ∧ r = .val (.int (pk m S).1) ∧ S' = (pk m S).2 := by
  unfold gPick at h
  split at h
  · split at h
    · rename_i m hz; cases h
      obtain ⟨h1, h2⟩ := unhide hz
      exact ⟨m, rfl, h1, h2, rfl, rfl⟩
    · cases h
  · cases h
theorem gPick_len {ds : List D} {S S' : Src} {r : Rs} (h : gPick ds S = some (r, S')) : ds.length = 1 := by
  obtain ⟨m, rfl, _⟩ := gPick_some h; rfl
/-! ### what opens the source -/
theorem scOpen : FnScope ["script", "stirred", "cell", "cells"] ["script"] (defScope sOpen) := ⟨rfl, rfl, rfl, by decide +kernel, rfl, by decide +kernel, by decide +kernel⟩
theorem fill4 (p' : V) (a b c : V) : mergeK [] [((.inr "cells" : Key), p'), (.inr "left", a), (.inr "mixed", b), (.inr "turn", c)] = [(.inr "cells", p'), (.inr "left", a), (.inr "mixed", b), (.inr "turn", c)] := by
  have h1 : ¬ ((.inr "cells" : Key) = .inr "left") := by decide +kernel
  have h2 : ¬ ((.inr "cells" : Key) = .inr "mixed") := by decide +kernel
  have h3 : ¬ ((.inr "cells" : Key) = .inr "turn") := by decide +kernel
  have h4 : ¬ ((.inr "left" : Key) = .inr "mixed") := by decide +kernel
  have h5 : ¬ ((.inr "left" : Key) = .inr "turn") := by decide +kernel
  have h6 : ¬ ((.inr "mixed" : Key) = .inr "turn") := by decide +kernel
  simp [mergeK, putK, h1, h2, h3, h4, h5, h6]
section
variable [KC] {P : Program} {w : World} {K : PySem.W.Frag} {mg : Str → Option Value} {base : Heap}
theorem ok_open {f : Addr} {fd : FuncData} (F : Fun K "_law_open_cells" "_law_open_cells" sOpen f fd) (zInt : mg "int" = none) (zAbs : mg "abs" = none) : FnG P w K mg base 1 f fd ["script"] (spOpen K) := by
  refine fnG_of F scOpen (fun vs H Q E ⟨a, ns, e, _⟩ => by rw [e]; rfl) fun cdv A outer s H vs Q E gd room h => ?_
  obtain ⟨a, ns, rfl, sq, len, fin⟩ := h
  refine ⟨_, pss_cons (ps_set (i := 1) scOpen.nd rfl (Or.inl rfl) pe_int)
    (pss_cons (ps_for PassesOwn.never rfl (pi_list (pv 0)) (pg_name (i := 2) scOpen.nd rfl (Or.inl rfl))
      (pss_one (ps_set (i := 1) scOpen.nd rfl (Or.inl rfl) (pe_op op_modN (pe_callTy call_int1 (by rfl) zInt boot_int (pa_cons (pe_op op_add (pe_op op_add (pe_op op_mul (pv 1) pe_int) (pe_op op_mul (pv 2) pe_int)) pe_int) pa_nil)) pe_int))))
    (pss_cons (ps_setLc (i := 3) (own := [("cell", 2)]) rfl scOpen.nd rfl rfl rfl (pi_list (pv 0)) (blk_of (by rfl))
      (fun _ _ _ _ _ => pg_name (i := 2) scOpen.nd rfl (Or.inl rfl)) (fun _ _ _ _ _ => pts_nil) (fun _ _ _ _ _ => pe_callB call_abs (by rfl) zAbs boot_abs (pa_cons (pv 2) pa_nil)))
    (pss_one (ps_ret (pe_disp (pps_cons pe_str (pe_revL (pv 3)) (pps_cons pe_str pe_int (pps_cons pe_str (pv 1) (pps_cons pe_str pe_int pps_nil)))) rfl rfl (by decide +kernel) (by decide +kernel)))))), ?_⟩
  have isInt : ∀ {i : Nat} {x : V}, (ns.map V.int)[i]? = some x → ∃ z, x = V.int z := fun {i x} hi => by
    rw [List.getElem?_map] at hi
    cases e : ns[i]? with
    | none => rw [e] at hi; cases hi
    | some z => rw [e] at hi; exact ⟨z, (Option.some.inj hi).symm⟩
  -- stirred = 11; for cell in script
  refine ⟨_, rfl, a, rfl, ⟨_, sq⟩, for_list (K := K) (a := a) (xs := ns.map V.int) (fun i σ H2 => H2 = H ∧ ∃ (m : Int) (c : Option V), σ = [some (.ref a), some (.int m), c, none]) ⟨rfl, 11, none, rfl⟩ (fun i σ H2 _ ⟨e, _⟩ => by rw [e]; exact sq) ?_ ?_⟩
  · rintro i x σ H2 hi ⟨rfl, m, c, rfl⟩
    obtain ⟨z, rfl⟩ := isInt hi
    refine ⟨_, rfl, _, _, rfl, rfl, Or.inr ⟨by decide, by decide⟩, _, rfl, _, _, rfl, rfl, Or.inr ⟨by decide, by decide⟩, _, _, rfl, rfl, _, _, rfl, rfl, Or.inl ⟨_, rfl, _, _, rfl, rfl, (by show (2147483629 : Int) ≠ 0; decide), ?_⟩⟩
    exact ⟨rfl, _, _, rfl⟩
  · rintro σ H2 ⟨rfl, m, c, rfl⟩
    -- cells = [abs(cell) for cell in script]
    refine ⟨_, rfl, a, rfl, ⟨_, sq⟩, fun D hD => lc_list (K := K) (a := a) (xs := ns.map V.int) (fun i H3 => Same H2 H3 ∧ ∃ ms : List Int, H3 D = some (.lst (ms.map V.int)) ∧ ms.length = i)
      ⟨fun b o e => by rw [upd_ne (ne_of_none e hD)]; exact e, [], upd_same, rfl⟩ (fun i H3 _ ⟨e, _⟩ => e.seq sq) ?_ ?_⟩
    · rintro i x H3 hi ⟨sm, ms, hms, hml⟩
      obtain ⟨z, rfl⟩ := isInt hi
      refine ⟨rfl, ?_⟩
      unfold tYes
      dsimp only
      rw [if_pos rfl]
      refine ⟨_, rfl, _, rfl, _, hms, ?_, ?_, ms ++ [if z < 0 then -z else z], ?_, ?_⟩
      · rw [List.length_map, hml, sizeLine_eq]
        have := (List.getElem?_eq_some_iff.mp hi).1
        rw [List.length_map] at this
        omega
      · exact fun b o e => by rw [upd_ne (ne_of_none e hD)]; exact sm b o e
      · rw [List.map_append, upd_same]; rfl
      · rw [List.length_append, hml]; rfl
    · rintro H3 ⟨sm, ms, hms, hml⟩
      -- the dict
      refine fun p hp => ⟨_, rfl, _, _, rfl, .inl (.inl (by rw [upd_ne (ne_of_none hms hp)]; exact hms)), fun p' hp' => ⟨_, rfl, ?_⟩⟩
      have np : p' ≠ p := fun z => by rw [z, upd_same] at hp'; cases hp'
      refine ⟨by rw [upd_ne (Ne.symm np)]; exact upd_same, [((.inr "cells" : Key), V.ref p'), (.inr "left", .int 1), (.inr "mixed", .int m), (.inr "turn", .int 0)], rfl, (by show 4 ≤ 15; decide), ?_⟩
      refine fin (p, p') ⟨ms.reverse, 1, m, 0⟩ _ ⟨?_, ?_⟩
      · rw [fill4]; exact upd_same
      · show upd _ p _ p' = _
        rw [upd_ne np, upd_same, List.map_reverse]

/-! ### what draws -/
theorem scPick : FnScope ["source", "most", "cells", "others", "lap", "stirred"] ["source", "most"] (defScope sPick) := ⟨rfl, rfl, rfl, by decide +kernel, rfl, by decide +kernel, by decide +kernel⟩
theorem ok_pick {f : Addr} {fd : FuncData} (F : Fun K "_law_pick" "_law_pick" sPick f fd) (zInt : mg "int" = none) (zLen : mg "len" = none) : FnG P w K mg base 1 f fd ["source", "most"] (spS K gPick) := by
  refine fnG_of F scPick (fun vs H Q E h => by obtain ⟨q, us, S, G, ds, r, S', rfl, _, _, _, _, ra, hg, _⟩ := h; rw [List.length_cons, ra.length, gPick_len hg]; rfl) fun cdv A outer s H vs Q E gd room h => ?_
  obtain ⟨q, us, S, G, ds, r, S', rfl, so, g1, g2, sub, ra, hg, k⟩ := h
  obtain ⟨m, rfl, hm1, hm2, rfl, rfl⟩ := gPick_some hg
  obtain ⟨v1, rfl, rv⟩ : ∃ v, us = [v] ∧ Rp K G v (.int m) := by cases ra with | cons h1 h2 => cases h2; exact ⟨_, rfl, h1⟩
  cases rv
  have hu := hu_of room
  have nq : q.2 ≠ q.1 := fun z => by have := so.c; rw [z, so.d] at this; cases this
  refine ⟨_, pss_cons (ps_if (pt_cmpR op_lt (pv 1) pe_int (nomark _)) (pss_one (ps_ret pe_int)) pss_nil)
    (pss_cons (ps_set (i := 2) scPick.nd rfl (Or.inl rfl) (pe_dget hu (pv 0) pe_str (fun _ _ => rfl)))
    (pss_cons (ps_while PassesOwn.never (PW.pt (pw_and (pt_cmpR op_lt (pe_dget hu (pv 0) pe_str (fun _ _ => rfl)) pe_int (nomark _)) (pw_and1 (pt_cmpR op_gt (pe_callB call_len_seq (by rfl) zLen PySem.boot_len (pa_cons (pv 2) pa_nil)) pe_int (nomark _)))))
      (pss_one (ps_dput hu (pv 0) pe_str (pe_bm0 PySem.F.plainAttrs_list PySem.F.slot_list_pop PySem.F.type_list_pop mt_pop (pv 2)) rfl)))
    (pss_cons (ps_set (i := 3) scPick.nd rfl (Or.inl rfl) (pe_dget hu (pv 0) pe_str (fun _ _ => rfl)))
    (pss_cons (ps_if (pt_cmpR op_gt (pv 3) pe_int (nomark _)) (pss_cons (ps_dput hu (pv 0) pe_str (pe_op op_fdivN (pv 3) (pv 1)) rfl) (pss_one (ps_ret (pe_op op_modN (pe_callTy call_int1 (by rfl) zInt boot_int (pa_cons (pv 3) pa_nil)) (pv 1))))) pss_nil)
    (pss_cons (ps_dput hu (pv 0) pe_str (pe_op op_add (pe_dget hu (pv 0) pe_str (fun _ _ => rfl)) pe_int) rfl)
    (pss_cons (ps_set (i := 4) scPick.nd rfl (Or.inl rfl) (pe_dget hu (pv 0) pe_str (fun _ _ => rfl)))
    (pss_cons (ps_set (i := 5) scPick.nd rfl (Or.inl rfl) (pe_op op_modN (pe_callTy call_int1 (by rfl) zInt boot_int (pa_cons (pe_op op_add (pe_dget hu (pv 0) pe_str (fun _ _ => rfl)) (pe_op op_mul (pv 4) pe_int)) pa_nil)) pe_int))
    (pss_cons (ps_set (i := 5) scPick.nd rfl (Or.inl rfl) (pe_op op_modN (pe_callTy call_int1 (by rfl) zInt boot_int (pa_cons (pe_op op_add (pe_op op_mul (pv 5) (pv 5)) (pe_op op_mul (pv 4) pe_int)) pa_nil)) pe_int))
    (pss_one (ps_ret (pe_op op_modN (pe_callTy call_int1 (by rfl) zInt boot_int (pa_cons (pe_op op_fdivN (pv 5) pe_int) pa_nil)) (pv 1)))))))))))), ?_⟩
  -- the end, whatever the source is by then
  have fin : ∀ S1 (r : Int) H1, pk m S = (r, S1) → SrcOk H1 q S1 → (∀ a o, H a = some o → a ≠ q.1 → a ≠ q.2 → H1 a = some o) → Q (.int r) H1 := fun S1 r H1 e so1 fr => by
    have e1 : (pk m S).1 = r := by rw [e]
    have e2 : (pk m S).2 = S1 := by rw [e]
    rw [e1, e2] at k
    refine k (.int r) G H1 Le.rfl' (fun a o h => fr a o (sub a o h) (fun z => by rw [z, g1] at h; cases h) (fun z => by rw [z, g2] at h; cases h)) (fun a ha => .inl ha) fr so1 (Rp.int r)
  -- if most < 2
  refine ⟨_, rfl, _, _, rfl, rfl, _, rfl, ?_⟩
  by_cases h2 : m < 2
  · rw [decide_eq_true h2]
    refine iteT ?_
    exact fin S 0 H (by unfold pk; rw [if_pos h2]) so fun a o h _ _ => h
  rw [decide_eq_false h2]
  refine iteF ?_
  -- cells = source['cells']
  refine ⟨_, rfl, q.1, .ref q.2, rfl, dgetS so.d srcCells, ?_⟩
  -- the while
  refine ⟨fun n σ H1 => ∃ cs l, σ = [some (.ref q.1), some (.int m), some (.ref q.2), none, none, none] ∧ SrcOk H1 q ⟨cs, l, S.mixed, S.turn⟩ ∧ (∀ a o, H a = some o → a ≠ q.1 → a ≠ q.2 → H1 a = some o) ∧ n = cs.length ∧ drainR cs.reverse l = drainR S.cells.reverse S.left,
    ⟨_, S.cells, S.left, rfl, so, fun a o h _ _ => h, rfl, rfl⟩, ?_⟩
  rintro n σ H1 ⟨cs, l, rfl, so1, fr, rfl, hd⟩
  refine ⟨_, rfl, q.1, .int l, rfl, dgetS so1.d srcLeft, _, _, rfl, rfl, _, rfl, ?_⟩
  by_cases hl : l < 2
  · rw [decide_eq_true hl]
    refine iteT ?_
    refine ⟨_, rfl, q.2, cs.map V.int, rfl, .inl (.inl (.inl so1.c)), _, _, rfl, rfl, _, rfl, ?_⟩
    by_cases hz : cs = []
    · have hz0 := hz
      rw [decide_eq_false (by rw [hz]; show ¬ (0 : Int) < 0; decide)]
      refine iteF ?_
      have hd' : drainR S.cells.reverse S.left = (cs.reverse, l) := by rw [← hd, hz]; rfl
      -- others = source['left']; if others > 1
      refine ⟨_, rfl, q.1, .int l, rfl, dgetS so1.d srcLeft, _, rfl, _, _, rfl, rfl, _, rfl, ?_⟩
      by_cases h1 : (1 : Int) < l
      · rw [decide_eq_true h1]
        refine iteT ?_
        refine ⟨_, rfl, _, rfl, _, _, rfl, rfl, ⟨(by omega : m ≠ 0), (by omega : m.natAbs < 1073741824)⟩, _, rfl, q.1, _, rfl, dputS (f := "left") (v := .int (l.fdiv m)) so1.d, ?_⟩
        refine ⟨_, rfl, .inl ⟨_, rfl, _, rfl, _, _, rfl, rfl, (by omega : m ≠ 0), ?_⟩⟩
        refine fin _ _ _ (by unfold pk; rw [if_neg h2, hd']; dsimp only; rw [if_pos h1]) ⟨?_, ?_⟩ fun a o h z1 z2 => by rw [upd_ne z1]; exact fr a o h z1 z2
        · rw [upd_same, putLeft]; rfl
        · rw [upd_ne nq]; simpa using so1.c
      · rw [decide_eq_false h1]
        refine iteF ?_
        -- source['turn'] = source['turn'] + 1
        refine ⟨_, rfl, q.1, .int S.turn, rfl, dgetS so1.d srcTurn, _, _, rfl, rfl, _, rfl, q.1, _, rfl, dputS (f := "turn") (v := .int (S.turn + 1)) so1.d, ?_⟩
        have so2 : SrcOk (upd H1 q.1 (.dK (srcDict q.2 ⟨cs, l, S.mixed, S.turn + 1⟩))) q ⟨cs, l, S.mixed, S.turn + 1⟩ := ⟨upd_same, by rw [upd_ne nq]; exact so1.c⟩
        rw [putTurn]
        refine ⟨_, rfl, q.1, .int (S.turn + 1), rfl, dgetS so2.d srcTurn, ?_⟩
        refine ⟨_, rfl, q.1, .int S.mixed, rfl, dgetS so2.d srcMixed, _, rfl, _, _, rfl, rfl, Or.inr ⟨by decide, by decide⟩, _, _, rfl, rfl, .inl ⟨_, rfl, _, _, rfl, rfl, (by show (998244353 : Int) ≠ 0; decide), ?_⟩⟩
        refine ⟨_, rfl, _, rfl, _, _, rfl, rfl, .inl (mod_small _), _, rfl, _, _, rfl, rfl, Or.inr ⟨by decide, by decide⟩, _, _, rfl, rfl, .inl ⟨_, rfl, _, _, rfl, rfl, (by show (2147483647 : Int) ≠ 0; decide), ?_⟩⟩
        refine ⟨_, rfl, _, _, rfl, rfl, ⟨by decide, by decide⟩, .inl ⟨_, rfl, _, rfl, _, _, rfl, rfl, (by omega : m ≠ 0), ?_⟩⟩
        refine fin _ _ _ (by unfold pk; rw [if_neg h2, hd']; dsimp only; rw [if_neg h1]) ⟨?_, ?_⟩ fun a o h z1 z2 => by rw [upd_ne z1]; exact fr a o h z1 z2
        · rw [List.reverse_reverse]; exact so2.d
        · rw [List.reverse_reverse]; exact so2.c
    · have hz' : (0 : Int) < ((cs.map V.int).length : Int) := by
        have : 0 < cs.length := List.length_pos_iff.mpr hz
        rw [List.length_map]; omega
      rw [decide_eq_true hz']
      refine iteT ?_
      obtain ⟨c, cs', hcs⟩ : ∃ c cs', cs.reverse = c :: cs' := by
        cases e : cs.reverse with
        | nil => exact absurd (by simpa using e) hz
        | cons c cs' => exact ⟨c, cs', rfl⟩
      have hcs2 : cs = cs'.reverse ++ [c] := by rw [← List.reverse_reverse cs, hcs, List.reverse_cons]
      have hlen : cs.length = cs'.length + 1 := by rw [hcs2]; simp
      refine ⟨fun σ' H' => ∃ cs2 l2, σ' = [some (.ref q.1), some (.int m), some (.ref q.2), none, none, none] ∧ SrcOk H' q ⟨cs2, l2, S.mixed, S.turn⟩ ∧ (∀ a o, H a = some o → a ≠ q.1 → a ≠ q.2 → H' a = some o) ∧ cs.length = cs2.length + 1 ∧ drainR cs2.reverse l2 = drainR S.cells.reverse S.left,
        fun σ' H' ⟨cs2, l2, y1, y2, y3, y4, y5⟩ => ⟨cs2.length, by omega, cs2, l2, y1, y2, y3, rfl, y5⟩, ?_⟩
      refine ⟨_, rfl, .inl ⟨rfl, _, .inl (.inl so1.c)⟩, q.2, cs.map V.int, .int c, rfl, rfl, so1.c, ?_, _, rfl, q.1, _, rfl, dputS (f := "left") (v := .int c) (by show upd H1 q.2 _ q.1 = _; rw [upd_ne (Ne.symm nq)]; exact so1.d), ?_⟩
      · rw [hcs2]; simp
      · refine ⟨cs'.reverse, c, rfl, ⟨?_, ?_⟩, fun a o h z1 z2 => by rw [upd_ne z1, upd_ne z2]; exact fr a o h z1 z2, by simpa using hlen, ?_⟩
        · rw [upd_same, putLeft]; rfl
        · rw [upd_ne nq, upd_same, hcs2]; simp
        · rw [List.reverse_reverse, ← hd, hcs, drainR_go hl]
  · rw [decide_eq_false hl]
    refine iteF ?_
    have hd' : drainR S.cells.reverse S.left = (cs.reverse, l) := by rw [← hd]; exact drainR_stop hl
    refine iteF ?_
    -- others = source['left']; if others > 1
    refine ⟨_, rfl, q.1, .int l, rfl, dgetS so1.d srcLeft, _, rfl, _, _, rfl, rfl, _, rfl, ?_⟩
    by_cases h1 : (1 : Int) < l
    · rw [decide_eq_true h1]
      refine iteT ?_
      refine ⟨_, rfl, _, rfl, _, _, rfl, rfl, ⟨(by omega : m ≠ 0), (by omega : m.natAbs < 1073741824)⟩, _, rfl, q.1, _, rfl, dputS (f := "left") (v := .int (l.fdiv m)) so1.d, ?_⟩
      refine ⟨_, rfl, .inl ⟨_, rfl, _, rfl, _, _, rfl, rfl, (by omega : m ≠ 0), ?_⟩⟩
      refine fin _ _ _ (by unfold pk; rw [if_neg h2, hd']; dsimp only; rw [if_pos h1]) ⟨?_, ?_⟩ fun a o h z1 z2 => by rw [upd_ne z1]; exact fr a o h z1 z2
      · rw [upd_same, putLeft]; rfl
      · rw [upd_ne nq]; simpa using so1.c
    · rw [decide_eq_false h1]
      refine iteF ?_
      -- source['turn'] = source['turn'] + 1
      refine ⟨_, rfl, q.1, .int S.turn, rfl, dgetS so1.d srcTurn, _, _, rfl, rfl, _, rfl, q.1, _, rfl, dputS (f := "turn") (v := .int (S.turn + 1)) so1.d, ?_⟩
      have so2 : SrcOk (upd H1 q.1 (.dK (srcDict q.2 ⟨cs, l, S.mixed, S.turn + 1⟩))) q ⟨cs, l, S.mixed, S.turn + 1⟩ := ⟨upd_same, by rw [upd_ne nq]; exact so1.c⟩
      rw [putTurn]
      refine ⟨_, rfl, q.1, .int (S.turn + 1), rfl, dgetS so2.d srcTurn, ?_⟩
      refine ⟨_, rfl, q.1, .int S.mixed, rfl, dgetS so2.d srcMixed, _, rfl, _, _, rfl, rfl, Or.inr ⟨by decide, by decide⟩, _, _, rfl, rfl, .inl ⟨_, rfl, _, _, rfl, rfl, (by show (998244353 : Int) ≠ 0; decide), ?_⟩⟩
      refine ⟨_, rfl, _, rfl, _, _, rfl, rfl, .inl (mod_small _), _, rfl, _, _, rfl, rfl, Or.inr ⟨by decide, by decide⟩, _, _, rfl, rfl, .inl ⟨_, rfl, _, _, rfl, rfl, (by show (2147483647 : Int) ≠ 0; decide), ?_⟩⟩
      refine ⟨_, rfl, _, _, rfl, rfl, ⟨by decide, by decide⟩, .inl ⟨_, rfl, _, rfl, _, _, rfl, rfl, (by omega : m ≠ 0), ?_⟩⟩
      refine fin _ _ _ (by unfold pk; rw [if_neg h2, hd']; dsimp only; rw [if_neg h1]) ⟨?_, ?_⟩ fun a o h z1 z2 => by rw [upd_ne z1]; exact fr a o h z1 z2
      · rw [List.reverse_reverse]; exact so2.d
      · rw [List.reverse_reverse]; exact so2.c

end
theorem draw {m : Int} (h : 1 ≤ m) (h2 : m < 1073741824) (S : Src) : ∃ r S', gPick [.int m] S = some (.val (.int r), S') ∧ 0 ≤ r ∧ r < m := by
  have := pk_lt h S
  have e : pickOk m = true := hid ⟨h, h2⟩
  exact ⟨_, _, by show (if pickOk m = true then _ else _) = _; rw [if_pos e], this.1, this.2⟩
end Law
end EL
namespace EL
open PySem PySem.Spec PyProof.Rows L2
namespace Law
/-! ### the built-ins that the text asks for -/
def k_ZERO : List Int := [0, 1]
instance : KC := ⟨fun d => PyData.eqv d (.tuple (k_ZERO.map PyData.int))⟩
theorem kc_ZERO : KC.kc (.tuple (k_ZERO.map PyData.int)) = true := by decide +kernel
structure Mg (K : PySem.W.Frag) (mg : Str → Option Value) : Prop where
  z_tuple : mg "tuple" = none
  z_len : mg "len" = none
  z_enumerate : mg "enumerate" = none
  z_list : mg "list" = none
  z_isinstance : mg "isinstance" = none
  z_int : mg "int" = none
  z_bool : mg "bool" = none
  z_all : mg "all" = none
  z_max : mg "max" = none
  z_abs : mg "abs" = none
  z_zip : mg "zip" = none
  z_range : mg "range" = none
  z_repr : mg "repr" = none
  g_ZERO : KonI K mg "ZERO" k_ZERO
  g_gcd : mg "gcd" = some (.builtin "math.gcd")
theorem bo_tuple : bootBuiltins "tuple" = some (.type "tuple") := by decide +kernel
theorem bo_len : bootBuiltins "len" = some (.builtin "len") := by decide +kernel
theorem bo_list : bootBuiltins "list" = some (.type "list") := by decide +kernel
theorem bo_isinstance : bootBuiltins "isinstance" = some (.builtin "isinstance") := by decide +kernel
theorem bo_int : bootBuiltins "int" = some (.type "int") := by decide +kernel
theorem bo_bool : bootBuiltins "bool" = some (.type "bool") := by decide +kernel
theorem bo_all : bootBuiltins "all" = some (.builtin "all") := by decide +kernel
theorem bo_max : bootBuiltins "max" = some (.builtin "max") := by decide +kernel
theorem bo_abs : bootBuiltins "abs" = some (.builtin "abs") := by decide +kernel
theorem bo_repr : bootBuiltins "repr" = some (.builtin "repr") := by decide +kernel
section
variable {P : Program} {w : World} {K : PySem.W.Frag} {mg : Str → Option Value} {base : Heap}
/-! ### row_of -/
abbrev st_row_of : Stmt := top 11
theorem sc_row_of : FnScope ["some", "many"] ["some"] (defScope st_row_of) := ⟨rfl, rfl, rfl, by decide +kernel, rfl, by decide +kernel, by decide +kernel⟩
def w1_row_of (e : EE) : Nat := 20000
def b_row_of : FS :=
  bCons (sSet 1 (eB gLenD (oCons (oVar 0) (oNil))))
  (bCons (sWh (tAnd (tOf (eBin gGt (oVar 1) (oVal (fC (.int 0))))) (tOf (eBin qEq (oVal (eBin gIx (oVar 0) (oVal (eBin gSub (oVar 1) (oVal (fC (.int 1))))))) (oVal (fC (.tuple (k_ZERO.map PyData.int))))))) (sSet 1 (eBin gSub (oVar 1) (oVal (fC (.int 1))))) w1_row_of)
  (sRet (eB gTuple (oCons (oVal (eSl (oVar 0) (pNo) (pIn (fVar 1)))) (oNil)))))
def p_row_of : List D → Option Rs := runD 1 2 b_row_of
theorem ok_row_of (d : Def K mg "row_of" st_row_of ["some"]) (T : Mg K mg) (sys : ∃ o, base.get? sysModules = some o) : Cal P w K mg base 1 "row_of" ["some"] (spD K p_row_of) :=
  cal_D (k := 0) d sc_row_of fun f cdv A outer s H E gd hr =>
  bd_cons (sd_set (i := 1) sc_row_of.nd rfl (by first | exact Or.inl rfl | exact Or.inr rfl) (ed_callB c_lenD (by rfl) T.z_len bo_len (os_cons (oe_var (pv 0)) (os_nil))))
  (bd_cons (sd_wh PassesOwn.never (PW.pt (wd_and (td_cmp o_gt (oe_var (pv 1)) (oe_val (ed_int)) (nomark _)) (wd_and1 (td_cmp (q_eq (u64 hr)) (oe_val (ed_sub (oe_var (pv 0)) (oe_val (ed_bin o_sub (oe_var (pv 1)) (oe_val (ed_int)))) (fun _ _ => rfl))) (oe_val (ed_gkonI (by rfl) T.g_ZERO kc_ZERO)) (nomark _))))) (bd_one (sd_set (i := 1) sc_row_of.nd rfl (by first | exact Or.inl rfl | exact Or.inr rfl) (ed_bin o_sub (oe_var (pv 1)) (oe_val (ed_int))))))
  (bd_one (sd_ret (ed_callTy c_tuple (by rfl) T.z_tuple bo_tuple (os_cons (oe_val (ed_slice (oe_var (pv 0)) (pp_no) (pp_in (ed_var (pv 1))))) (os_nil))))))
/-! ### fraction_of -/
abbrev st_fraction_of : Stmt := top 4
theorem sc_fraction_of : FnScope ["p", "q", "common"] ["p", "q"] (defScope st_fraction_of) := ⟨rfl, rfl, rfl, by decide +kernel, rfl, by decide +kernel, by decide +kernel⟩
def b_fraction_of : FS :=
  bCons (sSet 2 (eB gGcd (oCons (oVar 0) (oCons (oVar 1) (oNil)))))
  (sRet (eIf (tOf (eBin gGt (oVar 1) (oVal (fC (.int 0))))) (eTup (aCons (eBin gDivW (oVar 0) (oVar 2)) (aCons (eBin gDivW (oVar 1) (oVar 2)) (aNil)))) (eTup (aCons (eBin gDivW (oVal (eUn gNeg (oVar 0))) (oVar 2)) (aCons (eBin gDivW (oVal (eUn gNeg (oVar 1))) (oVar 2)) (aNil))))))
def p_fraction_of : List D → Option Rs := runD 2 3 b_fraction_of
theorem ok_fraction_of (d : Def K mg "fraction_of" st_fraction_of ["p", "q"]) (T : Mg K mg) (sys : ∃ o, base.get? sysModules = some o) : Cal P w K mg base 1 "fraction_of" ["p", "q"] (spD K p_fraction_of) :=
  cal_D (k := 0) d sc_fraction_of fun f cdv A outer s H E gd hr =>
  bd_cons (sd_set (i := 2) sc_fraction_of.nd rfl (by first | exact Or.inl rfl | exact Or.inr rfl) (ed_callBf c_gcd (by rfl) T.g_gcd (os_cons (oe_var (pv 0)) (os_cons (oe_var (pv 1)) (os_nil)))))
  (bd_one (sd_ret (ed_if (td_cmp o_gt (oe_var (pv 1)) (oe_val (ed_int)) (nomark _)) (ed_tup (as_cons (ed_bin o_divW (oe_var (pv 0)) (oe_var (pv 2))) (as_cons (ed_bin o_divW (oe_var (pv 1)) (oe_var (pv 2))) (as_nil)))) (ed_tup (as_cons (ed_bin o_divW (oe_val (ed_un u_neg (oe_var (pv 0)))) (oe_var (pv 2))) (as_cons (ed_bin o_divW (oe_val (ed_un u_neg (oe_var (pv 1)))) (oe_var (pv 2))) (as_nil)))))))
/-! ### fraction_sum -/
abbrev st_fraction_sum : Stmt := top 5
theorem sc_fraction_sum : FnScope ["a", "b"] ["a", "b"] (defScope st_fraction_sum) := ⟨rfl, rfl, rfl, by decide +kernel, rfl, by decide +kernel, by decide +kernel⟩
def b_fraction_sum : FS :=
  sRet (eCall p_fraction_of (aCons (eBin gAdd (oVal (eBin gMulW (oVal (eBin gIx (oVar 0) (oVal (fC (.int 0))))) (oVal (eBin gIx (oVar 1) (oVal (fC (.int 1))))))) (oVal (eBin gMulW (oVal (eBin gIx (oVar 1) (oVal (fC (.int 0))))) (oVal (eBin gIx (oVar 0) (oVal (fC (.int 1)))))))) (aCons (eBin gMulW (oVal (eBin gIx (oVar 0) (oVal (fC (.int 1))))) (oVal (eBin gIx (oVar 1) (oVal (fC (.int 1)))))) (aNil))))
def p_fraction_sum : List D → Option Rs := runD 2 2 b_fraction_sum
theorem ok_fraction_sum (d : Def K mg "fraction_sum" st_fraction_sum ["a", "b"]) (T : Mg K mg) (sys : ∃ o, base.get? sysModules = some o) (c_fraction_of : Cal P w K mg base 1 "fraction_of" ["p", "q"] (spD K p_fraction_of)) : Cal P w K mg base 2 "fraction_sum" ["a", "b"] (spD K p_fraction_sum) :=
  cal_D (k := 1) d sc_fraction_sum fun f cdv A outer s H E gd hr =>
  bd_one (sd_ret (ec c_fraction_of gd (hr.mono (by decide)) (by rfl) (as_cons (ed_bin o_add (oe_val (ed_bin o_mulW (oe_val (ed_sub (oe_var (pv 0)) (oe_val (ed_int)) (fun _ _ => rfl))) (oe_val (ed_sub (oe_var (pv 1)) (oe_val (ed_int)) (fun _ _ => rfl))))) (oe_val (ed_bin o_mulW (oe_val (ed_sub (oe_var (pv 1)) (oe_val (ed_int)) (fun _ _ => rfl))) (oe_val (ed_sub (oe_var (pv 0)) (oe_val (ed_int)) (fun _ _ => rfl)))))) (as_cons (ed_bin o_mulW (oe_val (ed_sub (oe_var (pv 0)) (oe_val (ed_int)) (fun _ _ => rfl))) (oe_val (ed_sub (oe_var (pv 1)) (oe_val (ed_int)) (fun _ _ => rfl)))) (as_nil)))))
/-! ### fraction_times -/
abbrev st_fraction_times : Stmt := top 7
theorem sc_fraction_times : FnScope ["a", "b"] ["a", "b"] (defScope st_fraction_times) := ⟨rfl, rfl, rfl, by decide +kernel, rfl, by decide +kernel, by decide +kernel⟩
def b_fraction_times : FS :=
  sRet (eCall p_fraction_of (aCons (eBin gMulW (oVal (eBin gIx (oVar 0) (oVal (fC (.int 0))))) (oVal (eBin gIx (oVar 1) (oVal (fC (.int 0)))))) (aCons (eBin gMulW (oVal (eBin gIx (oVar 0) (oVal (fC (.int 1))))) (oVal (eBin gIx (oVar 1) (oVal (fC (.int 1)))))) (aNil))))
def p_fraction_times : List D → Option Rs := runD 2 2 b_fraction_times
theorem ok_fraction_times (d : Def K mg "fraction_times" st_fraction_times ["a", "b"]) (T : Mg K mg) (sys : ∃ o, base.get? sysModules = some o) (c_fraction_of : Cal P w K mg base 1 "fraction_of" ["p", "q"] (spD K p_fraction_of)) : Cal P w K mg base 2 "fraction_times" ["a", "b"] (spD K p_fraction_times) :=
  cal_D (k := 1) d sc_fraction_times fun f cdv A outer s H E gd hr =>
  bd_one (sd_ret (ec c_fraction_of gd (hr.mono (by decide)) (by rfl) (as_cons (ed_bin o_mulW (oe_val (ed_sub (oe_var (pv 0)) (oe_val (ed_int)) (fun _ _ => rfl))) (oe_val (ed_sub (oe_var (pv 1)) (oe_val (ed_int)) (fun _ _ => rfl)))) (as_cons (ed_bin o_mulW (oe_val (ed_sub (oe_var (pv 0)) (oe_val (ed_int)) (fun _ _ => rfl))) (oe_val (ed_sub (oe_var (pv 1)) (oe_val (ed_int)) (fun _ _ => rfl)))) (as_nil)))))
/-! ### row_at -/
abbrev st_row_at : Stmt := top 12
theorem sc_row_at : FnScope ["row", "n", "found", "often", "k", "c"] ["row", "n"] (defScope st_row_at) := ⟨rfl, rfl, rfl, by decide +kernel, rfl, by decide +kernel, by decide +kernel⟩
def b_row_at : FS :=
  bCons (sPar [2, 3] (rCons (fC (.tuple (k_ZERO.map PyData.int))) (rCons (fC (.int 1)) (rNil))))
  (bCons (sFor (iEnumD (aCons (fVar 0) (aNil))) (gT 2 (gsCons (gN 4) (gsCons (gN 5) (gsNil)))) (bCons (sIf (tOf (eBin lNe (oVar 3) (oVal (fC (.int 0))))) (sSet 2 (eCall p_fraction_sum (aCons (fVar 2) (aCons (eCall p_fraction_times (aCons (eTup (aCons (fVar 3) (aCons (fC (.int 1)) (aNil)))) (aCons (fVar 5) (aNil)))) (aNil))))) (sNx))
    (sSet 3 (eBin gDivW (oVal (eBin gMulW (oVar 3) (oVal (eBin gSub (oVar 1) (oVar 4))))) (oVal (eBin gAdd (oVar 4) (oVal (fC (.int 1)))))))))
  (sRetV 2))
def p_row_at : List D → Option Rs := runD 2 6 b_row_at
theorem ok_row_at (d : Def K mg "row_at" st_row_at ["row", "n"]) (T : Mg K mg) (sys : ∃ o, base.get? sysModules = some o) (c_fraction_sum : Cal P w K mg base 2 "fraction_sum" ["a", "b"] (spD K p_fraction_sum)) (c_fraction_times : Cal P w K mg base 2 "fraction_times" ["a", "b"] (spD K p_fraction_times)) : Cal P w K mg base 3 "row_at" ["row", "n"] (spD K p_row_at) :=
  cal_D (k := 2) d sc_row_at fun f cdv A outer s H E gd hr =>
  bd_cons (sd_par (i := 2) (j := 3) rfl sc_row_at.nd rfl rfl (by decide) rfl rfl (rs_cons (ed_gkonI (by rfl) T.g_ZERO kc_ZERO) (rs_cons (ed_int) (rs_nil))) rfl)
  (bd_cons (sd_for PassesOwn.never rfl (id_enum (by rfl) T.z_enumerate (as_cons (ed_var (pv 0)) (as_nil))) (gd_tup rfl (gds_cons (gd_name sc_row_at.nd rfl (by first | exact Or.inl rfl | exact Or.inr rfl)) (gds_cons (gd_name sc_row_at.nd rfl (by first | exact Or.inl rfl | exact Or.inr rfl)) (gds_nil)))) (bd_cons (sd_if (td_cmp (l_ne (u64 hr)) (oe_var (pv 3)) (oe_val (ed_int)) (nomark _)) (bd_one (sd_set (i := 2) sc_row_at.nd rfl (by first | exact Or.inl rfl | exact Or.inr rfl) (ec c_fraction_sum gd (hr.mono (by decide)) (by rfl) (as_cons (ed_var (pv 2)) (as_cons (ec c_fraction_times gd (hr.mono (by decide)) (by rfl) (as_cons (ed_tup (as_cons (ed_var (pv 3)) (as_cons (ed_int) (as_nil)))) (as_cons (ed_var (pv 5)) (as_nil)))) (as_nil)))))) (bd_nil))
    (bd_one (sd_set (i := 3) sc_row_at.nd rfl (by first | exact Or.inl rfl | exact Or.inr rfl) (ed_bin o_divW (oe_val (ed_bin o_mulW (oe_var (pv 3)) (oe_val (ed_bin o_sub (oe_var (pv 1)) (oe_var (pv 4)))))) (oe_val (ed_bin o_add (oe_var (pv 4)) (oe_val (ed_int)))))))))
  (bd_one (sd_retV (pv 2))))
/-! ### mean_pair -/
abbrev st_mean_pair : Stmt := top 15
theorem sc_mean_pair : FnScope ["row", "early", "late", "some"] ["row", "early"] (defScope st_mean_pair) := ⟨rfl, rfl, rfl, by decide +kernel, rfl, by decide +kernel, by decide +kernel⟩
def w1_mean_pair (e : EE) : Nat := 20000
def b_mean_pair : FS :=
  bCons (sPar [2, 3] (rCons (eCall p_row_of (aCons (fVar 0) (aNil))) (rCons (eB gList (oCons (oVar 1) (oNil))) (rNil))))
  (bCons (sWh (tAnd (tOf (eBin lNe (oVar 3) (oVal (eLst (aNil))))) (tOf (eBin qEq (oVal (eBin gIx (oVar 3) (oVal (eUn gNeg (oVal (fC (.int 1))))))) (oVal (eCall p_row_at (aCons (fVar 2) (aCons (eBin gSub (oVal (eB gLenD (oCons (oVar 3) (oNil)))) (oVal (fC (.int 1)))) (aNil)))))))) (sDrop (mPop 3)) w1_mean_pair)
  (sRet (eTup (aCons (fVar 2) (aCons (eB gTuple (oCons (oVar 3) (oNil))) (aNil))))))
def p_mean_pair : List D → Option Rs := runD 2 4 b_mean_pair
theorem ok_mean_pair (d : Def K mg "mean_pair" st_mean_pair ["row", "early"]) (T : Mg K mg) (sys : ∃ o, base.get? sysModules = some o) (c_row_at : Cal P w K mg base 3 "row_at" ["row", "n"] (spD K p_row_at)) (c_row_of : Cal P w K mg base 1 "row_of" ["some"] (spD K p_row_of)) : Cal P w K mg base 4 "mean_pair" ["row", "early"] (spD K p_mean_pair) :=
  cal_D (k := 3) d sc_mean_pair fun f cdv A outer s H E gd hr =>
  bd_cons (sd_par (i := 2) (j := 3) rfl sc_mean_pair.nd rfl rfl (by decide) rfl rfl (rs_cons (ec c_row_of gd (hr.mono (by decide)) (by rfl) (as_cons (ed_var (pv 0)) (as_nil))) (rs_cons (ed_callTy c_list (by rfl) T.z_list bo_list (os_cons (oe_var (pv 1)) (os_nil))) (rs_nil))) rfl)
  (bd_cons (sd_wh PassesOwn.never (PW.pt (wd_and (td_cmp (l_ne (u64 hr)) (oe_var (pv 3)) (oe_val (ed_lst (as_nil))) (nomark _)) (wd_and1 (td_cmp (q_eq (u64 hr)) (oe_val (ed_sub (oe_var (pv 3)) (oe_val (ed_un u_neg (oe_val (ed_int)))) (fun _ _ => rfl))) (oe_val (ec c_row_at gd (hr.mono (by decide)) (by rfl) (as_cons (ed_var (pv 2)) (as_cons (ed_bin o_sub (oe_val (ed_callB c_lenD (by rfl) T.z_len bo_len (os_cons (oe_var (pv 3)) (os_nil)))) (oe_val (ed_int))) (as_nil))))) (nomark _))))) (bd_one (sd_expr (ed_pop (pv 3)))))
  (bd_one (sd_ret (ed_tup (as_cons (ed_var (pv 2)) (as_cons (ed_callTy c_tuple (by rfl) T.z_tuple bo_tuple (os_cons (oe_var (pv 3)) (os_nil))) (as_nil)))))))
/-! ### is_integer -/
abbrev st_is_integer : Stmt := top 2
theorem sc_is_integer : FnScope ["value"] ["value"] (defScope st_is_integer) := ⟨rfl, rfl, rfl, by decide +kernel, rfl, by decide +kernel, by decide +kernel⟩
def b_is_integer : FS :=
  sRet (eAnd (eInst (oVar 0) "int") (eNot (eInst (oVar 0) "bool")))
def p_is_integer : List D → Option Rs := runD 1 1 b_is_integer
theorem ok_is_integer (d : Def K mg "is_integer" st_is_integer ["value"]) (T : Mg K mg) (sys : ∃ o, base.get? sysModules = some o) : Cal P w K mg base 1 "is_integer" ["value"] (spD K p_is_integer) :=
  cal_D (k := 0) d sc_is_integer fun f cdv A outer s H E gd hr =>
  bd_one (sd_ret (ed_and (ed_inst (by rfl) T.z_isinstance bo_isinstance (by rfl) T.z_int bo_int (oe_var (pv 0))) (ed_one (ed_not (ed_inst (by rfl) T.z_isinstance bo_isinstance (by rfl) T.z_bool bo_bool (oe_var (pv 0)))))))
/-! ### is_fraction -/
abbrev st_is_fraction : Stmt := top 3
theorem sc_is_fraction : FnScope ["value", "n"] ["value"] (defScope st_is_fraction) := ⟨rfl, rfl, rfl, by decide +kernel, rfl, by decide +kernel, by decide +kernel⟩
def b_is_fraction : FS :=
  bCons (sIf (tOr (tNot (tOf (eInst (oVar 0) "tuple"))) (tOr (tOf (eBin lNe (oVal (eB gLenD (oCons (oVar 0) (oNil)))) (oVal (fC (.int 2))))) (tNot (tOf (eB gAll (oCons (oVal (eComp [1] (iSeq (fVar 0)) (gN 1) (tYs) (eCall p_is_integer (aCons (fVar 1) (aNil))))) (oNil))))))) (sRet (fC (.bool false))) (sNx))
  (sRet (eAnd (eBin gGt (oVal (eBin gIx (oVar 0) (oVal (fC (.int 1))))) (oVal (fC (.int 0)))) (eBin qEq (oVal (eB gGcd (oCons (oVal (eBin gIx (oVar 0) (oVal (fC (.int 0))))) (oCons (oVal (eBin gIx (oVar 0) (oVal (fC (.int 1))))) (oNil))))) (oVal (fC (.int 1))))))
def p_is_fraction : List D → Option Rs := runD 1 2 b_is_fraction
theorem ok_is_fraction (d : Def K mg "is_fraction" st_is_fraction ["value"]) (T : Mg K mg) (sys : ∃ o, base.get? sysModules = some o) (c_is_integer : Cal P w K mg base 1 "is_integer" ["value"] (spD K p_is_integer)) : Cal P w K mg base 2 "is_fraction" ["value"] (spD K p_is_fraction) :=
  cal_D (k := 1) d sc_is_fraction fun f cdv A outer s H E gd hr =>
  bd_cons (sd_if (PW.pt (wd_or (td_not (td_val (ed_inst (by rfl) T.z_isinstance bo_isinstance (by rfl) T.z_tuple bo_tuple (oe_var (pv 0))))) (wd_or (td_cmp (l_ne (u64 hr)) (oe_val (ed_callB c_lenD (by rfl) T.z_len bo_len (os_cons (oe_var (pv 0)) (os_nil)))) (oe_val (ed_int)) (nomark _)) (wd_or1 (td_not (td_val (ed_callB (c_all rfl) (by rfl) T.z_all bo_all (os_cons (oe_val (ed_lc (own := [("n", 1)]) rfl sc_is_fraction.nd (id_seq (ed_var (pv 0))) (blk_of (by rfl)) (fun _ _ _ _ _ => gv_name sc_is_fraction.nd rfl (by first | exact Or.inl rfl | exact Or.inr rfl) (by simp)) (fun _ _ _ _ _ => pts_yes) (fun _ _ _ _ _ => ec c_is_integer gd (hr.mono (by decide)) (by rfl) (as_cons (ed_var (pv 1)) (as_nil))))) (os_nil))))))))) (bd_one (sd_ret (ed_bl))) (bd_nil))
  (bd_one (sd_ret (ed_and (ed_cmp o_gt (oe_val (ed_sub (oe_var (pv 0)) (oe_val (ed_int)) (fun _ _ => rfl))) (oe_val (ed_int)) (nomark _)) (ed_one (ed_cmp (q_eq (u64 hr)) (oe_val (ed_callBf c_gcd (by rfl) T.g_gcd (os_cons (oe_val (ed_sub (oe_var (pv 0)) (oe_val (ed_int)) (fun _ _ => rfl))) (os_cons (oe_val (ed_sub (oe_var (pv 0)) (oe_val (ed_int)) (fun _ _ => rfl))) (os_nil))))) (oe_val (ed_int)) (nomark _))))))
/-! ### is_row -/
abbrev st_is_row : Stmt := top 10
theorem sc_is_row : FnScope ["value", "c"] ["value"] (defScope st_is_row) := ⟨rfl, rfl, rfl, by decide +kernel, rfl, by decide +kernel, by decide +kernel⟩
def b_is_row : FS :=
  bCons (sIf (tOr (tNot (tOf (eInst (oVar 0) "tuple"))) (tNot (tOf (eB gAll (oCons (oVal (eComp [1] (iSeq (fVar 0)) (gN 1) (tYs) (eCall p_is_fraction (aCons (fVar 1) (aNil))))) (oNil)))))) (sRet (fC (.bool false))) (sNx))
  (sRet (eOr (eBin qEq (oVar 0) (oVal (eTup (aNil)))) (eBin lNe (oVal (eBin gIx (oVar 0) (oVal (eUn gNeg (oVal (fC (.int 1))))))) (oVal (fC (.tuple (k_ZERO.map PyData.int)))))))
def p_is_row : List D → Option Rs := runD 1 2 b_is_row
theorem ok_is_row (d : Def K mg "is_row" st_is_row ["value"]) (T : Mg K mg) (sys : ∃ o, base.get? sysModules = some o) (c_is_fraction : Cal P w K mg base 2 "is_fraction" ["value"] (spD K p_is_fraction)) : Cal P w K mg base 3 "is_row" ["value"] (spD K p_is_row) :=
  cal_D (k := 2) d sc_is_row fun f cdv A outer s H E gd hr =>
  bd_cons (sd_if (PW.pt (wd_or (td_not (td_val (ed_inst (by rfl) T.z_isinstance bo_isinstance (by rfl) T.z_tuple bo_tuple (oe_var (pv 0))))) (wd_or1 (td_not (td_val (ed_callB (c_all rfl) (by rfl) T.z_all bo_all (os_cons (oe_val (ed_lc (own := [("c", 1)]) rfl sc_is_row.nd (id_seq (ed_var (pv 0))) (blk_of (by rfl)) (fun _ _ _ _ _ => gv_name sc_is_row.nd rfl (by first | exact Or.inl rfl | exact Or.inr rfl) (by simp)) (fun _ _ _ _ _ => pts_yes) (fun _ _ _ _ _ => ec c_is_fraction gd (hr.mono (by decide)) (by rfl) (as_cons (ed_var (pv 1)) (as_nil))))) (os_nil)))))))) (bd_one (sd_ret (ed_bl))) (bd_nil))
  (bd_one (sd_ret (ed_or (ed_cmp (q_eq (u64 hr)) (oe_var (pv 0)) (oe_val (ed_tup (as_nil))) (nomark _)) (ed_one (ed_cmp (l_ne (u64 hr)) (oe_val (ed_sub (oe_var (pv 0)) (oe_val (ed_un u_neg (oe_val (ed_int)))) (fun _ _ => rfl))) (oe_val (ed_gkonI (by rfl) T.g_ZERO kc_ZERO)) (nomark _))))))
/-! ### is_mean -/
abbrev st_is_mean : Stmt := top 16
theorem sc_is_mean : FnScope ["value", "fraction"] ["value"] (defScope st_is_mean) := ⟨rfl, rfl, rfl, by decide +kernel, rfl, by decide +kernel, by decide +kernel⟩
def b_is_mean : FS :=
  bCons (sIf (tOr (tNot (tOf (eInst (oVar 0) "tuple"))) (tOr (tOf (eBin lNe (oVal (eB gLenD (oCons (oVar 0) (oNil)))) (oVal (fC (.int 2))))) (tOr (tNot (tOf (eCall p_is_row (aCons (eBin gIx (oVar 0) (oVal (fC (.int 0)))) (aNil))))) (tNot (tOf (eInst (oVal (eBin gIx (oVar 0) (oVal (fC (.int 1))))) "tuple")))))) (sRet (fC (.bool false))) (sNx))
  (bCons (sIf (tNot (tOf (eB gAll (oCons (oVal (eComp [1] (iSeq (eBin gIx (oVar 0) (oVal (fC (.int 1))))) (gN 1) (tYs) (eCall p_is_fraction (aCons (fVar 1) (aNil))))) (oNil))))) (sRet (fC (.bool false))) (sNx))
  (sRet (eOr (eBin qEq (oVal (eBin gIx (oVar 0) (oVal (fC (.int 1))))) (oVal (eTup (aNil)))) (eBin lNe (oVal (eBin gIx (oVal (eBin gIx (oVar 0) (oVal (fC (.int 1))))) (oVal (eUn gNeg (oVal (fC (.int 1))))))) (oVal (eCall p_row_at (aCons (eBin gIx (oVar 0) (oVal (fC (.int 0)))) (aCons (eBin gSub (oVal (eB gLenD (oCons (oVal (eBin gIx (oVar 0) (oVal (fC (.int 1))))) (oNil)))) (oVal (fC (.int 1)))) (aNil)))))))))
def p_is_mean : List D → Option Rs := runD 1 2 b_is_mean
theorem ok_is_mean (d : Def K mg "is_mean" st_is_mean ["value"]) (T : Mg K mg) (sys : ∃ o, base.get? sysModules = some o) (c_is_fraction : Cal P w K mg base 2 "is_fraction" ["value"] (spD K p_is_fraction)) (c_is_row : Cal P w K mg base 3 "is_row" ["value"] (spD K p_is_row)) (c_row_at : Cal P w K mg base 3 "row_at" ["row", "n"] (spD K p_row_at)) : Cal P w K mg base 4 "is_mean" ["value"] (spD K p_is_mean) :=
  cal_D (k := 3) d sc_is_mean fun f cdv A outer s H E gd hr =>
  bd_cons (sd_if (PW.pt (wd_or (td_not (td_val (ed_inst (by rfl) T.z_isinstance bo_isinstance (by rfl) T.z_tuple bo_tuple (oe_var (pv 0))))) (wd_or (td_cmp (l_ne (u64 hr)) (oe_val (ed_callB c_lenD (by rfl) T.z_len bo_len (os_cons (oe_var (pv 0)) (os_nil)))) (oe_val (ed_int)) (nomark _)) (wd_or (td_not (td_val (ec c_is_row gd (hr.mono (by decide)) (by rfl) (as_cons (ed_sub (oe_var (pv 0)) (oe_val (ed_int)) (fun _ _ => rfl)) (as_nil))))) (wd_or1 (td_not (td_val (ed_inst (by rfl) T.z_isinstance bo_isinstance (by rfl) T.z_tuple bo_tuple (oe_val (ed_sub (oe_var (pv 0)) (oe_val (ed_int)) (fun _ _ => rfl))))))))))) (bd_one (sd_ret (ed_bl))) (bd_nil))
  (bd_cons (sd_if (td_not (td_val (ed_callB (c_all rfl) (by rfl) T.z_all bo_all (os_cons (oe_val (ed_lc (own := [("fraction", 1)]) rfl sc_is_mean.nd (id_seq (ed_sub (oe_var (pv 0)) (oe_val (ed_int)) (fun _ _ => rfl))) (blk_of (by rfl)) (fun _ _ _ _ _ => gv_name sc_is_mean.nd rfl (by first | exact Or.inl rfl | exact Or.inr rfl) (by simp)) (fun _ _ _ _ _ => pts_yes) (fun _ _ _ _ _ => ec c_is_fraction gd (hr.mono (by decide)) (by rfl) (as_cons (ed_var (pv 1)) (as_nil))))) (os_nil))))) (bd_one (sd_ret (ed_bl))) (bd_nil))
  (bd_one (sd_ret (ed_or (ed_cmp (q_eq (u64 hr)) (oe_val (ed_sub (oe_var (pv 0)) (oe_val (ed_int)) (fun _ _ => rfl))) (oe_val (ed_tup (as_nil))) (nomark _)) (ed_one (ed_cmp (l_ne (u64 hr)) (oe_val (ed_sub (oe_val (ed_sub (oe_var (pv 0)) (oe_val (ed_int)) (fun _ _ => rfl))) (oe_val (ed_un u_neg (oe_val (ed_int)))) (fun _ _ => rfl))) (oe_val (ec c_row_at gd (hr.mono (by decide)) (by rfl) (as_cons (ed_sub (oe_var (pv 0)) (oe_val (ed_int)) (fun _ _ => rfl)) (as_cons (ed_bin o_sub (oe_val (ed_callB c_lenD (by rfl) T.z_len bo_len (os_cons (oe_val (ed_sub (oe_var (pv 0)) (oe_val (ed_int)) (fun _ _ => rfl))) (os_nil)))) (oe_val (ed_int))) (as_nil))))) (nomark _)))))))
/-! ### mean_at -/
abbrev st_mean_at : Stmt := top 17
theorem sc_mean_at : FnScope ["mean", "n", "row", "early"] ["mean", "n"] (defScope st_mean_at) := ⟨rfl, rfl, rfl, by decide +kernel, rfl, by decide +kernel, by decide +kernel⟩
def b_mean_at : FS :=
  bCons (sAsg (fVar 0) (gT 2 (gsCons (gN 2) (gsCons (gN 3) (gsNil)))))
  (sRet (eIf (tOf (eBin gLt (oVar 1) (oVal (eB gLenD (oCons (oVar 3) (oNil)))))) (eBin gIx (oVar 3) (oVar 1)) (eCall p_row_at (aCons (fVar 2) (aCons (fVar 1) (aNil))))))
def p_mean_at : List D → Option Rs := runD 2 4 b_mean_at
theorem ok_mean_at (d : Def K mg "mean_at" st_mean_at ["mean", "n"]) (T : Mg K mg) (sys : ∃ o, base.get? sysModules = some o) (c_row_at : Cal P w K mg base 3 "row_at" ["row", "n"] (spD K p_row_at)) : Cal P w K mg base 4 "mean_at" ["mean", "n"] (spD K p_mean_at) :=
  cal_D (k := 3) d sc_mean_at fun f cdv A outer s H E gd hr =>
  bd_cons (sd_asg (ed_var (pv 0)) (gd_tup rfl (gds_cons (gd_name sc_mean_at.nd rfl (by first | exact Or.inl rfl | exact Or.inr rfl)) (gds_cons (gd_name sc_mean_at.nd rfl (by first | exact Or.inl rfl | exact Or.inr rfl)) (gds_nil)))))
  (bd_one (sd_ret (ed_if (td_cmp o_lt (oe_var (pv 1)) (oe_val (ed_callB c_lenD (by rfl) T.z_len bo_len (os_cons (oe_var (pv 3)) (os_nil)))) (nomark _)) (ed_sub (oe_var (pv 3)) (oe_var (pv 1)) (fun _ _ => rfl)) (ec c_row_at gd (hr.mono (by decide)) (by rfl) (as_cons (ed_var (pv 2)) (as_cons (ed_var (pv 1)) (as_nil)))))))
/-! ### judge_late -/
abbrev st_judge_late : Stmt := top 19
theorem sc_judge_late : FnScope ["mean", "value", "many", "n"] ["mean", "value"] (defScope st_judge_late) := ⟨rfl, rfl, rfl, by decide +kernel, rfl, by decide +kernel, by decide +kernel⟩
def w1_judge_late (e : EE) : Nat := 20000
def b_judge_late : FS :=
  bCons (sIf (tNot (tOf (eCall p_is_mean (aCons (fVar 1) (aNil))))) (sRet (eTup (aCons (fC (.str "form")) (aNil)))) (sNx))
  (bCons (sIf (tOf (eBin qEq (oVar 1) (oVar 0))) (sRet (fC .none)) (sNx))
  (bCons (sSet 2 (eBin gAdd (oVal (eB gMax (oCons (oVal (eB gLenD (oCons (oVal (eBin gIx (oVar 0) (oVal (fC (.int 1))))) (oNil)))) (oCons (oVal (eB gLenD (oCons (oVal (eBin gIx (oVar 1) (oVal (fC (.int 1))))) (oNil)))) (oNil))))) (oVal (eB gMax (oCons (oVal (eB gLenD (oCons (oVal (eBin gIx (oVar 0) (oVal (fC (.int 0))))) (oNil)))) (oCons (oVal (eB gLenD (oCons (oVal (eBin gIx (oVar 1) (oVal (fC (.int 0))))) (oNil)))) (oNil)))))))
  (bCons (sSet 3 (fC (.int 0)))
  (bCons (sWh (tAnd (tOf (eBin gLt (oVar 3) (oVar 2))) (tOf (eBin qEq (oVal (eCall p_mean_at (aCons (fVar 1) (aCons (fVar 3) (aNil))))) (oVal (eCall p_mean_at (aCons (fVar 0) (aCons (fVar 3) (aNil)))))))) (sSet 3 (eBin gAdd (oVar 3) (oVal (fC (.int 1))))) w1_judge_late)
  (sRet (eTup (aCons (fC (.str "at")) (aCons (fVar 3) (aCons (eCall p_mean_at (aCons (fVar 0) (aCons (fVar 3) (aNil)))) (aNil))))))))))
def p_judge_late : List D → Option Rs := runD 2 4 b_judge_late
theorem ok_judge_late (d : Def K mg "judge_late" st_judge_late ["mean", "value"]) (T : Mg K mg) (sys : ∃ o, base.get? sysModules = some o) (c_is_mean : Cal P w K mg base 4 "is_mean" ["value"] (spD K p_is_mean)) (c_mean_at : Cal P w K mg base 4 "mean_at" ["mean", "n"] (spD K p_mean_at)) : Cal P w K mg base 5 "judge_late" ["mean", "value"] (spD K p_judge_late) :=
  cal_D (k := 4) d sc_judge_late fun f cdv A outer s H E gd hr =>
  bd_cons (sd_if (td_not (td_val (ec c_is_mean gd (hr.mono (by decide)) (by rfl) (as_cons (ed_var (pv 1)) (as_nil))))) (bd_one (sd_ret (ed_tup (as_cons (ed_str) (as_nil))))) (bd_nil))
  (bd_cons (sd_if (td_cmp (q_eq (u64 hr)) (oe_var (pv 1)) (oe_var (pv 0)) (nomark _)) (bd_one (sd_ret (ed_non))) (bd_nil))
  (bd_cons (sd_set (i := 2) sc_judge_late.nd rfl (by first | exact Or.inl rfl | exact Or.inr rfl) (ed_bin o_add (oe_val (ed_callB (c_max rfl) (by rfl) T.z_max bo_max (os_cons (oe_val (ed_callB c_lenD (by rfl) T.z_len bo_len (os_cons (oe_val (ed_sub (oe_var (pv 0)) (oe_val (ed_int)) (fun _ _ => rfl))) (os_nil)))) (os_cons (oe_val (ed_callB c_lenD (by rfl) T.z_len bo_len (os_cons (oe_val (ed_sub (oe_var (pv 1)) (oe_val (ed_int)) (fun _ _ => rfl))) (os_nil)))) (os_nil))))) (oe_val (ed_callB (c_max rfl) (by rfl) T.z_max bo_max (os_cons (oe_val (ed_callB c_lenD (by rfl) T.z_len bo_len (os_cons (oe_val (ed_sub (oe_var (pv 0)) (oe_val (ed_int)) (fun _ _ => rfl))) (os_nil)))) (os_cons (oe_val (ed_callB c_lenD (by rfl) T.z_len bo_len (os_cons (oe_val (ed_sub (oe_var (pv 1)) (oe_val (ed_int)) (fun _ _ => rfl))) (os_nil)))) (os_nil)))))))
  (bd_cons (sd_set (i := 3) sc_judge_late.nd rfl (by first | exact Or.inl rfl | exact Or.inr rfl) (ed_int))
  (bd_cons (sd_wh PassesOwn.never (PW.pt (wd_and (td_cmp o_lt (oe_var (pv 3)) (oe_var (pv 2)) (nomark _)) (wd_and1 (td_cmp (q_eq (u64 hr)) (oe_val (ec c_mean_at gd (hr.mono (by decide)) (by rfl) (as_cons (ed_var (pv 1)) (as_cons (ed_var (pv 3)) (as_nil))))) (oe_val (ec c_mean_at gd (hr.mono (by decide)) (by rfl) (as_cons (ed_var (pv 0)) (as_cons (ed_var (pv 3)) (as_nil))))) (nomark _))))) (bd_one (sd_set (i := 3) sc_judge_late.nd rfl (by first | exact Or.inl rfl | exact Or.inr rfl) (ed_bin o_add (oe_var (pv 3)) (oe_val (ed_int))))))
  (bd_one (sd_ret (ed_tup (as_cons (ed_str) (as_cons (ed_var (pv 3)) (as_cons (ec c_mean_at gd (hr.mono (by decide)) (by rfl) (as_cons (ed_var (pv 0)) (as_cons (ed_var (pv 3)) (as_nil)))) (as_nil)))))))))))
/-! ### _law_fraction -/
abbrev st__law_fraction : Stmt := top 29
theorem sc__law_fraction : FnScope ["p", "q", "a", "b", "sign"] ["p", "q"] (defScope st__law_fraction) := ⟨rfl, rfl, rfl, by decide +kernel, rfl, by decide +kernel, by decide +kernel⟩
def w1__law_fraction (e : EE) : Nat := 20000
def b__law_fraction : FS :=
  bCons (sPar [2, 3] (rCons (eB gAbs (oCons (oVar 0) (oNil))) (rCons (eB gAbs (oCons (oVar 1) (oNil))) (rNil))))
  (bCons (sWh (tOf (eBin gGt (oVar 3) (oVal (fC (.int 0))))) (sPar [2, 3] (rCons (fVar 3) (rCons (eBin gMod (oVal (eB gInt (oCons (oVar 2) (oNil)))) (oVar 3)) (rNil)))) w1__law_fraction)
  (bCons (sSet 4 (eIf (tOf (eBin gGt (oVar 1) (oVal (fC (.int 0))))) (fC (.int 1)) (eBin gSub (oVal (fC (.int 0))) (oVal (fC (.int 1))))))
  (sRet (eTup (aCons (eBin gDivW (oVal (eBin gMulW (oVar 4) (oVar 0))) (oVar 2)) (aCons (eBin gDivW (oVal (eBin gMulW (oVar 4) (oVar 1))) (oVar 2)) (aNil)))))))
def p__law_fraction : List D → Option Rs := runD 2 5 b__law_fraction
theorem ok__law_fraction (d : Def K mg "_law_fraction" st__law_fraction ["p", "q"]) (T : Mg K mg) (sys : ∃ o, base.get? sysModules = some o) : Cal P w K mg base 1 "_law_fraction" ["p", "q"] (spD K p__law_fraction) :=
  cal_D (k := 0) d sc__law_fraction fun f cdv A outer s H E gd hr =>
  bd_cons (sd_par (i := 2) (j := 3) rfl sc__law_fraction.nd rfl rfl (by decide) rfl rfl (rs_cons (ed_callB c_abs (by rfl) T.z_abs bo_abs (os_cons (oe_var (pv 0)) (os_nil))) (rs_cons (ed_callB c_abs (by rfl) T.z_abs bo_abs (os_cons (oe_var (pv 1)) (os_nil))) (rs_nil))) rfl)
  (bd_cons (sd_wh PassesOwn.never (td_cmp o_gt (oe_var (pv 3)) (oe_val (ed_int)) (nomark _)) (bd_one (sd_par (i := 2) (j := 3) rfl sc__law_fraction.nd rfl rfl (by decide) rfl rfl (rs_cons (ed_var (pv 3)) (rs_cons (ed_bin o_mod (oe_val (ed_callTy c_int (by rfl) T.z_int bo_int (os_cons (oe_var (pv 2)) (os_nil)))) (oe_var (pv 3))) (rs_nil))) rfl)))
  (bd_cons (sd_set (i := 4) sc__law_fraction.nd rfl (by first | exact Or.inl rfl | exact Or.inr rfl) (ed_if (td_cmp o_gt (oe_var (pv 1)) (oe_val (ed_int)) (nomark _)) (ed_int) (ed_bin o_sub (oe_val (ed_int)) (oe_val (ed_int)))))
  (bd_one (sd_ret (ed_tup (as_cons (ed_bin o_divW (oe_val (ed_bin o_mulW (oe_var (pv 4)) (oe_var (pv 0)))) (oe_var (pv 2))) (as_cons (ed_bin o_divW (oe_val (ed_bin o_mulW (oe_var (pv 4)) (oe_var (pv 1)))) (oe_var (pv 2))) (as_nil))))))))
/-! ### _law_of -/
abbrev st__law_of : Stmt := top 25
theorem sc__law_of : FnScope ["source", "some"] ["source", "some"] (defScope st__law_of) := ⟨rfl, rfl, rfl, by decide +kernel, rfl, by decide +kernel, by decide +kernel⟩
def b__law_of : FS :=
  sRet (eBin gIx (oVar 1) (oVal (eCallS 0 gPick (aCons (eB gLenD (oCons (oVar 1) (oNil))) (aNil)))))
def p__law_of : List D → Src → Option (Rs × Src) := runS 2 2 b__law_of
theorem ok__law_of (d : Def K mg "_law_of" st__law_of ["source", "some"]) (T : Mg K mg) (sys : ∃ o, base.get? sysModules = some o) (c__law_pick : Cal P w K mg base 1 "_law_pick" ["source", "most"] (spS K gPick)) : Cal P w K mg base 2 "_law_of" ["source", "some"] (spS K p__law_of) :=
  cal_S (k := 1) d sc__law_of fun f cdv A outer s H E gd hr =>
  bd_one (sd_ret (ed_sub (oe_var (pv 1)) (oe_val (ecS c__law_pick gd (hr.mono (by decide)) (by rfl) (pv 0) (as_cons (ed_callB c_lenD (by rfl) T.z_len bo_len (os_cons (oe_var (pv 1)) (os_nil))) (as_nil)))) (fun _ _ => rfl)))
/-! ### _law_number -/
abbrev st__law_number : Stmt := top 33
theorem sc__law_number : FnScope ["source"] ["source"] (defScope st__law_number) := ⟨rfl, rfl, rfl, by decide +kernel, rfl, by decide +kernel, by decide +kernel⟩
def b__law_number : FS :=
  sRet (eCall p__law_fraction (aCons (eCallS 0 p__law_of (aCons (eLst (aCons (fC (.int 1)) (aCons (fC (.int 1)) (aCons (eUn gNeg (oVal (fC (.int 1)))) (aCons (fC (.int 2)) (aCons (eUn gNeg (oVal (fC (.int 3)))) (aCons (fC (.int 5)) (aCons (fC (.int 7)) (aNil))))))))) (aNil))) (aCons (eCallS 0 p__law_of (aCons (eLst (aCons (fC (.int 1)) (aCons (fC (.int 1)) (aCons (fC (.int 1)) (aCons (fC (.int 2)) (aCons (fC (.int 3)) (aNil))))))) (aNil))) (aNil))))
def p__law_number : List D → Src → Option (Rs × Src) := runS 1 1 b__law_number
theorem ok__law_number (d : Def K mg "_law_number" st__law_number ["source"]) (T : Mg K mg) (sys : ∃ o, base.get? sysModules = some o) (c__law_fraction : Cal P w K mg base 1 "_law_fraction" ["p", "q"] (spD K p__law_fraction)) (c__law_of : Cal P w K mg base 2 "_law_of" ["source", "some"] (spS K p__law_of)) : Cal P w K mg base 3 "_law_number" ["source"] (spS K p__law_number) :=
  cal_S (k := 2) d sc__law_number fun f cdv A outer s H E gd hr =>
  bd_one (sd_ret (ec c__law_fraction gd (hr.mono (by decide)) (by rfl) (as_cons (ecS c__law_of gd (hr.mono (by decide)) (by rfl) (pv 0) (as_cons (ed_lst (as_cons (ed_int) (as_cons (ed_int) (as_cons (ed_un u_neg (oe_val (ed_int))) (as_cons (ed_int) (as_cons (ed_un u_neg (oe_val (ed_int))) (as_cons (ed_int) (as_cons (ed_int) (as_nil))))))))) (as_nil))) (as_cons (ecS c__law_of gd (hr.mono (by decide)) (by rfl) (pv 0) (as_cons (ed_lst (as_cons (ed_int) (as_cons (ed_int) (as_cons (ed_int) (as_cons (ed_int) (as_cons (ed_int) (as_nil))))))) (as_nil))) (as_nil)))))
/-! ### _law_trimmed -/
abbrev st__law_trimmed : Stmt := top 32
theorem sc__law_trimmed : FnScope ["some", "found"] ["some"] (defScope st__law_trimmed) := ⟨rfl, rfl, rfl, by decide +kernel, rfl, by decide +kernel, by decide +kernel⟩
def w1__law_trimmed (e : EE) : Nat := 20000
def b__law_trimmed : FS :=
  bCons (sSet 1 (eB gList (oCons (oVar 0) (oNil))))
  (bCons (sWh (tAnd (tOf (eBin lNe (oVar 1) (oVal (eLst (aNil))))) (tOf (eBin qEq (oVal (eBin gIx (oVar 1) (oVal (eUn gNeg (oVal (fC (.int 1))))))) (oVal (eTup (aCons (fC (.int 0)) (aCons (fC (.int 1)) (aNil)))))))) (sDrop (mPop 1)) w1__law_trimmed)
  (sRet (eB gTuple (oCons (oVar 1) (oNil)))))
def p__law_trimmed : List D → Option Rs := runD 1 2 b__law_trimmed
theorem ok__law_trimmed (d : Def K mg "_law_trimmed" st__law_trimmed ["some"]) (T : Mg K mg) (sys : ∃ o, base.get? sysModules = some o) : Cal P w K mg base 1 "_law_trimmed" ["some"] (spD K p__law_trimmed) :=
  cal_D (k := 0) d sc__law_trimmed fun f cdv A outer s H E gd hr =>
  bd_cons (sd_set (i := 1) sc__law_trimmed.nd rfl (by first | exact Or.inl rfl | exact Or.inr rfl) (ed_callTy c_list (by rfl) T.z_list bo_list (os_cons (oe_var (pv 0)) (os_nil))))
  (bd_cons (sd_wh PassesOwn.never (PW.pt (wd_and (td_cmp (l_ne (u64 hr)) (oe_var (pv 1)) (oe_val (ed_lst (as_nil))) (nomark _)) (wd_and1 (td_cmp (q_eq (u64 hr)) (oe_val (ed_sub (oe_var (pv 1)) (oe_val (ed_un u_neg (oe_val (ed_int)))) (fun _ _ => rfl))) (oe_val (ed_tup (as_cons (ed_int) (as_cons (ed_int) (as_nil))))) (nomark _))))) (bd_one (sd_expr (ed_pop (pv 1)))))
  (bd_one (sd_ret (ed_callTy c_tuple (by rfl) T.z_tuple bo_tuple (os_cons (oe_var (pv 1)) (os_nil))))))
/-! ### _law_plus -/
abbrev st__law_plus : Stmt := top 30
theorem sc__law_plus : FnScope ["a", "b"] ["a", "b"] (defScope st__law_plus) := ⟨rfl, rfl, rfl, by decide +kernel, rfl, by decide +kernel, by decide +kernel⟩
def b__law_plus : FS :=
  sRet (eCall p__law_fraction (aCons (eBin gAdd (oVal (eBin gMulW (oVal (eBin gIx (oVar 0) (oVal (fC (.int 0))))) (oVal (eBin gIx (oVar 1) (oVal (fC (.int 1))))))) (oVal (eBin gMulW (oVal (eBin gIx (oVar 1) (oVal (fC (.int 0))))) (oVal (eBin gIx (oVar 0) (oVal (fC (.int 1)))))))) (aCons (eBin gMulW (oVal (eBin gIx (oVar 0) (oVal (fC (.int 1))))) (oVal (eBin gIx (oVar 1) (oVal (fC (.int 1)))))) (aNil))))
def p__law_plus : List D → Option Rs := runD 2 2 b__law_plus
theorem ok__law_plus (d : Def K mg "_law_plus" st__law_plus ["a", "b"]) (T : Mg K mg) (sys : ∃ o, base.get? sysModules = some o) (c__law_fraction : Cal P w K mg base 1 "_law_fraction" ["p", "q"] (spD K p__law_fraction)) : Cal P w K mg base 2 "_law_plus" ["a", "b"] (spD K p__law_plus) :=
  cal_D (k := 1) d sc__law_plus fun f cdv A outer s H E gd hr =>
  bd_one (sd_ret (ec c__law_fraction gd (hr.mono (by decide)) (by rfl) (as_cons (ed_bin o_add (oe_val (ed_bin o_mulW (oe_val (ed_sub (oe_var (pv 0)) (oe_val (ed_int)) (fun _ _ => rfl))) (oe_val (ed_sub (oe_var (pv 1)) (oe_val (ed_int)) (fun _ _ => rfl))))) (oe_val (ed_bin o_mulW (oe_val (ed_sub (oe_var (pv 1)) (oe_val (ed_int)) (fun _ _ => rfl))) (oe_val (ed_sub (oe_var (pv 0)) (oe_val (ed_int)) (fun _ _ => rfl)))))) (as_cons (ed_bin o_mulW (oe_val (ed_sub (oe_var (pv 0)) (oe_val (ed_int)) (fun _ _ => rfl))) (oe_val (ed_sub (oe_var (pv 1)) (oe_val (ed_int)) (fun _ _ => rfl)))) (as_nil)))))
/-! ### _law_by -/
abbrev st__law_by : Stmt := top 31
theorem sc__law_by : FnScope ["a", "b"] ["a", "b"] (defScope st__law_by) := ⟨rfl, rfl, rfl, by decide +kernel, rfl, by decide +kernel, by decide +kernel⟩
def b__law_by : FS :=
  sRet (eCall p__law_fraction (aCons (eBin gMulW (oVal (eBin gIx (oVar 0) (oVal (fC (.int 0))))) (oVal (eBin gIx (oVar 1) (oVal (fC (.int 0)))))) (aCons (eBin gMulW (oVal (eBin gIx (oVar 0) (oVal (fC (.int 1))))) (oVal (eBin gIx (oVar 1) (oVal (fC (.int 1)))))) (aNil))))
def p__law_by : List D → Option Rs := runD 2 2 b__law_by
theorem ok__law_by (d : Def K mg "_law_by" st__law_by ["a", "b"]) (T : Mg K mg) (sys : ∃ o, base.get? sysModules = some o) (c__law_fraction : Cal P w K mg base 1 "_law_fraction" ["p", "q"] (spD K p__law_fraction)) : Cal P w K mg base 2 "_law_by" ["a", "b"] (spD K p__law_by) :=
  cal_D (k := 1) d sc__law_by fun f cdv A outer s H E gd hr =>
  bd_one (sd_ret (ec c__law_fraction gd (hr.mono (by decide)) (by rfl) (as_cons (ed_bin o_mulW (oe_val (ed_sub (oe_var (pv 0)) (oe_val (ed_int)) (fun _ _ => rfl))) (oe_val (ed_sub (oe_var (pv 1)) (oe_val (ed_int)) (fun _ _ => rfl)))) (as_cons (ed_bin o_mulW (oe_val (ed_sub (oe_var (pv 0)) (oe_val (ed_int)) (fun _ _ => rfl))) (oe_val (ed_sub (oe_var (pv 1)) (oe_val (ed_int)) (fun _ _ => rfl)))) (as_nil)))))
/-! ### _law_through -/
abbrev st__law_through : Stmt := top 38
theorem sc__law_through : FnScope ["worths", "found", "rest", "early", "late"] ["worths"] (defScope st__law_through) := ⟨rfl, rfl, rfl, by decide +kernel, rfl, by decide +kernel, by decide +kernel⟩
def w1__law_through (e : EE) : Nat := 20000
def b__law_through : FS :=
  bCons (sPar [1, 2] (rCons (eLst (aNil)) (rCons (eB gList (oCons (oVar 0) (oNil))) (rNil))))
  (bCons (sWh (tOf (eBin lNe (oVar 2) (oVal (eLst (aNil))))) (bCons (sDrop (mAppend 1 (eBin gIx (oVar 2) (oVal (fC (.int 0))))))
    (sSet 2 (eComp [3, 4] (iZipD (aCons (fVar 2) (aCons (eSl (oVar 2) (pIn (fC (.int 1))) (pNo)) (aNil)))) (gT 2 (gsCons (gN 3) (gsCons (gN 4) (gsNil)))) (tYs) (eCall p__law_plus (aCons (fVar 4) (aCons (eCall p__law_by (aCons (eTup (aCons (eUn gNeg (oVal (fC (.int 1)))) (aCons (fC (.int 1)) (aNil)))) (aCons (fVar 3) (aNil)))) (aNil))))))) w1__law_through)
  (sRet (eCall p__law_trimmed (aCons (fVar 1) (aNil)))))
def p__law_through : List D → Option Rs := runD 1 5 b__law_through
theorem ok__law_through (d : Def K mg "_law_through" st__law_through ["worths"]) (T : Mg K mg) (sys : ∃ o, base.get? sysModules = some o) (c__law_by : Cal P w K mg base 2 "_law_by" ["a", "b"] (spD K p__law_by)) (c__law_plus : Cal P w K mg base 2 "_law_plus" ["a", "b"] (spD K p__law_plus)) (c__law_trimmed : Cal P w K mg base 1 "_law_trimmed" ["some"] (spD K p__law_trimmed)) : Cal P w K mg base 3 "_law_through" ["worths"] (spD K p__law_through) :=
  cal_D (k := 2) d sc__law_through fun f cdv A outer s H E gd hr =>
  bd_cons (sd_par (i := 1) (j := 2) rfl sc__law_through.nd rfl rfl (by decide) rfl rfl (rs_cons (ed_lst (as_nil)) (rs_cons (ed_callTy c_list (by rfl) T.z_list bo_list (os_cons (oe_var (pv 0)) (os_nil))) (rs_nil))) rfl)
  (bd_cons (sd_wh PassesOwn.never (td_cmp (l_ne (u64 hr)) (oe_var (pv 2)) (oe_val (ed_lst (as_nil))) (nomark _)) (bd_cons (sd_expr (ed_append (pv 1) (ed_sub (oe_var (pv 2)) (oe_val (ed_int)) (fun _ _ => rfl))))
    (bd_one (sd_setLc (i := 2) (own := [("early", 3), ("late", 4)]) rfl sc__law_through.nd rfl rfl rfl (id_zip (by rfl) T.z_zip (as_cons (ed_var (pv 2)) (as_cons (ed_slice (oe_var (pv 2)) (pp_in (ed_int)) (pp_no)) (as_nil)))) (blk_of (by rfl)) (fun _ _ _ _ _ => gv_tup rfl (gvs_cons (gv_name sc__law_through.nd rfl (by first | exact Or.inl rfl | exact Or.inr rfl) (by simp)) (gvs_cons (gv_name sc__law_through.nd rfl (by first | exact Or.inl rfl | exact Or.inr rfl) (by simp)) (gvs_nil)))) (fun _ _ _ _ _ => pts_yes) (fun _ _ _ _ _ => ec c__law_plus gd (hr.mono (by decide)) (by rfl) (as_cons (ed_var (pv 4)) (as_cons (ec c__law_by gd (hr.mono (by decide)) (by rfl) (as_cons (ed_tup (as_cons (ed_un u_neg (oe_val (ed_int))) (as_cons (ed_int) (as_nil)))) (as_cons (ed_var (pv 3)) (as_nil)))) (as_nil))))))))
  (bd_one (sd_ret (ec c__law_trimmed gd (hr.mono (by decide)) (by rfl) (as_cons (ed_var (pv 1)) (as_nil))))))
/-! ### _law_deep -/
abbrev st__law_deep : Stmt := top 27
theorem sc__law_deep : FnScope ["source", "odd", "deep", "turn"] ["source", "odd"] (defScope st__law_deep) := ⟨rfl, rfl, rfl, by decide +kernel, rfl, by decide +kernel, by decide +kernel⟩
def b__law_deep : FS :=
  bCons (sSet 2 (eCallS 0 p__law_of (aCons (fVar 1) (aNil))))
  (bCons (sFor (iRg1 (oCons (oVal (fC (.int 34))) (oNil))) (gN 3) (sSet 2 (eIf (tOf (eBin qEq (oVal (eCallS 0 gPick (aCons (fC (.int 5)) (aNil)))) (oVal (fC (.int 0))))) (eLst (aCons (fVar 2) (aNil))) (eTup (aCons (fVar 2) (aNil))))))
  (sRetV 2))
def p__law_deep : List D → Src → Option (Rs × Src) := runS 2 4 b__law_deep
theorem ok__law_deep (d : Def K mg "_law_deep" st__law_deep ["source", "odd"]) (T : Mg K mg) (sys : ∃ o, base.get? sysModules = some o) (c__law_of : Cal P w K mg base 2 "_law_of" ["source", "some"] (spS K p__law_of)) (c__law_pick : Cal P w K mg base 1 "_law_pick" ["source", "most"] (spS K gPick)) : Cal P w K mg base 3 "_law_deep" ["source", "odd"] (spS K p__law_deep) :=
  cal_S (k := 2) d sc__law_deep fun f cdv A outer s H E gd hr =>
  bd_cons (sd_set (i := 2) sc__law_deep.nd rfl (by first | exact Or.inl rfl | exact Or.inr rfl) (ecS c__law_of gd (hr.mono (by decide)) (by rfl) (pv 0) (as_cons (ed_var (pv 1)) (as_nil))))
  (bd_cons (sd_for PassesOwn.never rfl (id_rg1 (by rfl) T.z_range (os_cons (oe_val (ed_int)) (os_nil))) (gd_name sc__law_deep.nd rfl (by first | exact Or.inl rfl | exact Or.inr rfl)) (bd_one (sd_set (i := 2) sc__law_deep.nd rfl (by first | exact Or.inl rfl | exact Or.inr rfl) (ed_if (td_cmp (q_eq (u64 hr)) (oe_val (ecS c__law_pick gd (hr.mono (by decide)) (by rfl) (pv 0) (as_cons (ed_int) (as_nil)))) (oe_val (ed_int)) (nomark _)) (ed_lst (as_cons (ed_var (pv 2)) (as_nil))) (ed_tup (as_cons (ed_var (pv 2)) (as_nil)))))))
  (bd_one (sd_retV (pv 2))))
/-! ### fraction_less -/
abbrev st_fraction_less : Stmt := top 6
theorem sc_fraction_less : FnScope ["a", "b"] ["a", "b"] (defScope st_fraction_less) := ⟨rfl, rfl, rfl, by decide +kernel, rfl, by decide +kernel, by decide +kernel⟩
def b_fraction_less : FS :=
  sRet (eCall p_fraction_of (aCons (eBin gSub (oVal (eBin gMulW (oVal (eBin gIx (oVar 0) (oVal (fC (.int 0))))) (oVal (eBin gIx (oVar 1) (oVal (fC (.int 1))))))) (oVal (eBin gMulW (oVal (eBin gIx (oVar 1) (oVal (fC (.int 0))))) (oVal (eBin gIx (oVar 0) (oVal (fC (.int 1)))))))) (aCons (eBin gMulW (oVal (eBin gIx (oVar 0) (oVal (fC (.int 1))))) (oVal (eBin gIx (oVar 1) (oVal (fC (.int 1)))))) (aNil))))
def p_fraction_less : List D → Option Rs := runD 2 2 b_fraction_less
theorem ok_fraction_less (d : Def K mg "fraction_less" st_fraction_less ["a", "b"]) (T : Mg K mg) (sys : ∃ o, base.get? sysModules = some o) (c_fraction_of : Cal P w K mg base 1 "fraction_of" ["p", "q"] (spD K p_fraction_of)) : Cal P w K mg base 2 "fraction_less" ["a", "b"] (spD K p_fraction_less) :=
  cal_D (k := 1) d sc_fraction_less fun f cdv A outer s H E gd hr =>
  bd_one (sd_ret (ec c_fraction_of gd (hr.mono (by decide)) (by rfl) (as_cons (ed_bin o_sub (oe_val (ed_bin o_mulW (oe_val (ed_sub (oe_var (pv 0)) (oe_val (ed_int)) (fun _ _ => rfl))) (oe_val (ed_sub (oe_var (pv 1)) (oe_val (ed_int)) (fun _ _ => rfl))))) (oe_val (ed_bin o_mulW (oe_val (ed_sub (oe_var (pv 1)) (oe_val (ed_int)) (fun _ _ => rfl))) (oe_val (ed_sub (oe_var (pv 0)) (oe_val (ed_int)) (fun _ _ => rfl)))))) (as_cons (ed_bin o_mulW (oe_val (ed_sub (oe_var (pv 0)) (oe_val (ed_int)) (fun _ _ => rfl))) (oe_val (ed_sub (oe_var (pv 1)) (oe_val (ed_int)) (fun _ _ => rfl)))) (as_nil)))))
/-! ### row_through -/
abbrev st_row_through : Stmt := top 13
theorem sc_row_through : FnScope ["worths", "found", "rest", "early", "late"] ["worths"] (defScope st_row_through) := ⟨rfl, rfl, rfl, by decide +kernel, rfl, by decide +kernel, by decide +kernel⟩
def w1_row_through (e : EE) : Nat := 20000
def b_row_through : FS :=
  bCons (sPar [1, 2] (rCons (eLst (aNil)) (rCons (eB gList (oCons (oVar 0) (oNil))) (rNil))))
  (bCons (sWh (tOf (eBin lNe (oVar 2) (oVal (eLst (aNil))))) (bCons (sDrop (mAppend 1 (eBin gIx (oVar 2) (oVal (fC (.int 0))))))
    (sSet 2 (eComp [3, 4] (iZipD (aCons (fVar 2) (aCons (eSl (oVar 2) (pIn (fC (.int 1))) (pNo)) (aNil)))) (gT 2 (gsCons (gN 3) (gsCons (gN 4) (gsNil)))) (tYs) (eCall p_fraction_less (aCons (fVar 4) (aCons (fVar 3) (aNil))))))) w1_row_through)
  (sRet (eCall p_row_of (aCons (fVar 1) (aNil)))))
def p_row_through : List D → Option Rs := runD 1 5 b_row_through
theorem ok_row_through (d : Def K mg "row_through" st_row_through ["worths"]) (T : Mg K mg) (sys : ∃ o, base.get? sysModules = some o) (c_fraction_less : Cal P w K mg base 2 "fraction_less" ["a", "b"] (spD K p_fraction_less)) (c_row_of : Cal P w K mg base 1 "row_of" ["some"] (spD K p_row_of)) : Cal P w K mg base 3 "row_through" ["worths"] (spD K p_row_through) :=
  cal_D (k := 2) d sc_row_through fun f cdv A outer s H E gd hr =>
  bd_cons (sd_par (i := 1) (j := 2) rfl sc_row_through.nd rfl rfl (by decide) rfl rfl (rs_cons (ed_lst (as_nil)) (rs_cons (ed_callTy c_list (by rfl) T.z_list bo_list (os_cons (oe_var (pv 0)) (os_nil))) (rs_nil))) rfl)
  (bd_cons (sd_wh PassesOwn.never (td_cmp (l_ne (u64 hr)) (oe_var (pv 2)) (oe_val (ed_lst (as_nil))) (nomark _)) (bd_cons (sd_expr (ed_append (pv 1) (ed_sub (oe_var (pv 2)) (oe_val (ed_int)) (fun _ _ => rfl))))
    (bd_one (sd_setLc (i := 2) (own := [("early", 3), ("late", 4)]) rfl sc_row_through.nd rfl rfl rfl (id_zip (by rfl) T.z_zip (as_cons (ed_var (pv 2)) (as_cons (ed_slice (oe_var (pv 2)) (pp_in (ed_int)) (pp_no)) (as_nil)))) (blk_of (by rfl)) (fun _ _ _ _ _ => gv_tup rfl (gvs_cons (gv_name sc_row_through.nd rfl (by first | exact Or.inl rfl | exact Or.inr rfl) (by simp)) (gvs_cons (gv_name sc_row_through.nd rfl (by first | exact Or.inl rfl | exact Or.inr rfl) (by simp)) (gvs_nil)))) (fun _ _ _ _ _ => pts_yes) (fun _ _ _ _ _ => ec c_fraction_less gd (hr.mono (by decide)) (by rfl) (as_cons (ed_var (pv 4)) (as_cons (ed_var (pv 3)) (as_nil))))))))
  (bd_one (sd_ret (ec c_row_of gd (hr.mono (by decide)) (by rfl) (as_cons (ed_var (pv 1)) (as_nil))))))
/-! ### _law_bent -/
abbrev st__law_bent : Stmt := top 26
theorem sc__law_bent : FnScope ["source", "value", "odd", "k", "way"] ["source", "value", "odd"] (defScope st__law_bent) := ⟨rfl, rfl, rfl, by decide +kernel, rfl, by decide +kernel, by decide +kernel⟩
def b__law_bent (φ : List D → Src → Option (Rs × Src)) : FS :=
  bCons (sIf (tAnd (tOf (eInst (oVar 1) "int")) (tAnd (tNot (tOf (eInst (oVar 1) "bool"))) (tOf (eBin gGt (oVal (eCallS 0 gPick (aCons (fC (.int 3)) (aNil)))) (oVal (fC (.int 0))))))) (sRet (eBin gAdd (oVar 1) (oVal (eCallS 0 p__law_of (aCons (eLst (aCons (fC (.int 1)) (aCons (eUn gNeg (oVal (fC (.int 1)))) (aCons (fC (.int 2)) (aNil))))) (aNil)))))) (sNx))
  (bCons (sIf (tOr (tNot (tOf (eInst (oVar 1) "tuple"))) (tOr (tOf (eBin qEq (oVar 1) (oVal (eTup (aNil))))) (tOf (eBin qEq (oVal (eCallS 0 gPick (aCons (fC (.int 7)) (aNil)))) (oVal (fC (.int 0))))))) (sRet (eCallS 0 p__law_of (aCons (fVar 2) (aNil)))) (sNx))
  (bCons (sPar [3, 4] (rCons (eCallS 0 gPick (aCons (eB gLenD (oCons (oVar 1) (oNil))) (aNil))) (rCons (eCallS 0 gPick (aCons (fC (.int 8)) (aNil))) (rNil))))
  (bCons (sIf (tOf (eBin gLt (oVar 4) (oVal (fC (.int 5))))) (sRet (eBin gAdd (oVal (eBin gAdd (oVal (eSl (oVar 1) (pNo) (pIn (fVar 3)))) (oVal (eTup (aCons (eCallS 0 φ (aCons (eBin gIx (oVar 1) (oVar 3)) (aCons (fVar 2) (aNil)))) (aNil)))))) (oVal (eSl (oVar 1) (pIn (eBin gAdd (oVar 3) (oVal (fC (.int 1))))) (pNo))))) (sNx))
  (sRet (eBin gIx (oVal (eLst (aCons (eBin gAdd (oVal (eSl (oVar 1) (pNo) (pIn (fVar 3)))) (oVal (eSl (oVar 1) (pIn (eBin gAdd (oVar 3) (oVal (fC (.int 1))))) (pNo)))) (aCons (eBin gAdd (oVal (eSl (oVar 1) (pNo) (pIn (eBin gAdd (oVar 3) (oVal (fC (.int 1))))))) (oVal (eSl (oVar 1) (pIn (fVar 3)) (pNo)))) (aCons (eB gList (oCons (oVar 1) (oNil))) (aNil)))))) (oVal (eBin gSub (oVar 4) (oVal (fC (.int 5))))))))))
def p__law_bent : Nat → List D → Src → Option (Rs × Src)
  | 0 => fun _ _ => none
  | n + 1 => runS 3 5 (b__law_bent (p__law_bent n))
abbrev rec__law_bent : Nat := 8
theorem ok__law_bent (d : Def K mg "_law_bent" st__law_bent ["source", "value", "odd"]) (T : Mg K mg) (sys : ∃ o, base.get? sysModules = some o) (c__law_of : Cal P w K mg base 2 "_law_of" ["source", "some"] (spS K p__law_of)) (c__law_pick : Cal P w K mg base 1 "_law_pick" ["source", "most"] (spS K gPick)) : ∀ n, Cal P w K mg base (3 + n) "_law_bent" ["source", "value", "odd"] (spS K (p__law_bent n))
  | 0 => cal_none d
  | n + 1 => by
    have c_self := ok__law_bent d T sys c__law_of c__law_pick n
    exact cal_S (k := 3 + n) d sc__law_bent (fun f cdv A outer s H E gd hr =>
  bd_cons (sd_if (PW.pt (wd_and (td_val (ed_inst (by rfl) T.z_isinstance bo_isinstance (by rfl) T.z_int bo_int (oe_var (pv 1)))) (wd_and (td_not (td_val (ed_inst (by rfl) T.z_isinstance bo_isinstance (by rfl) T.z_bool bo_bool (oe_var (pv 1))))) (wd_and1 (td_cmp o_gt (oe_val (ecS c__law_pick gd (hr.mono (by omega)) (by rfl) (pv 0) (as_cons (ed_int) (as_nil)))) (oe_val (ed_int)) (nomark _)))))) (bd_one (sd_ret (ed_bin o_add (oe_var (pv 1)) (oe_val (ecS c__law_of gd (hr.mono (by omega)) (by rfl) (pv 0) (as_cons (ed_lst (as_cons (ed_int) (as_cons (ed_un u_neg (oe_val (ed_int))) (as_cons (ed_int) (as_nil))))) (as_nil))))))) (bd_nil))
  (bd_cons (sd_if (PW.pt (wd_or (td_not (td_val (ed_inst (by rfl) T.z_isinstance bo_isinstance (by rfl) T.z_tuple bo_tuple (oe_var (pv 1))))) (wd_or (td_cmp (q_eq (u64 hr)) (oe_var (pv 1)) (oe_val (ed_tup (as_nil))) (nomark _)) (wd_or1 (td_cmp (q_eq (u64 hr)) (oe_val (ecS c__law_pick gd (hr.mono (by omega)) (by rfl) (pv 0) (as_cons (ed_int) (as_nil)))) (oe_val (ed_int)) (nomark _)))))) (bd_one (sd_ret (ecS c__law_of gd (hr.mono (by omega)) (by rfl) (pv 0) (as_cons (ed_var (pv 2)) (as_nil))))) (bd_nil))
  (bd_cons (sd_par (i := 3) (j := 4) rfl sc__law_bent.nd rfl rfl (by decide) rfl rfl (rs_cons (ecS c__law_pick gd (hr.mono (by omega)) (by rfl) (pv 0) (as_cons (ed_callB c_lenD (by rfl) T.z_len bo_len (os_cons (oe_var (pv 1)) (os_nil))) (as_nil))) (rs_cons (ecS c__law_pick gd (hr.mono (by omega)) (by rfl) (pv 0) (as_cons (ed_int) (as_nil))) (rs_nil))) rfl)
  (bd_cons (sd_if (td_cmp o_lt (oe_var (pv 4)) (oe_val (ed_int)) (nomark _)) (bd_one (sd_ret (ed_bin o_add (oe_val (ed_bin o_add (oe_val (ed_slice (oe_var (pv 1)) (pp_no) (pp_in (ed_var (pv 3))))) (oe_val (ed_tup (as_cons (ecS c_self gd (hr.mono (by omega)) (by rfl) (pv 0) (as_cons (ed_sub (oe_var (pv 1)) (oe_var (pv 3)) (fun _ _ => rfl)) (as_cons (ed_var (pv 2)) (as_nil)))) (as_nil)))))) (oe_val (ed_slice (oe_var (pv 1)) (pp_in (ed_bin o_add (oe_var (pv 3)) (oe_val (ed_int)))) (pp_no)))))) (bd_nil))
  (bd_one (sd_ret (ed_sub (oe_val (ed_lst (as_cons (ed_bin o_add (oe_val (ed_slice (oe_var (pv 1)) (pp_no) (pp_in (ed_var (pv 3))))) (oe_val (ed_slice (oe_var (pv 1)) (pp_in (ed_bin o_add (oe_var (pv 3)) (oe_val (ed_int)))) (pp_no)))) (as_cons (ed_bin o_add (oe_val (ed_slice (oe_var (pv 1)) (pp_no) (pp_in (ed_bin o_add (oe_var (pv 3)) (oe_val (ed_int)))))) (oe_val (ed_slice (oe_var (pv 1)) (pp_in (ed_var (pv 3))) (pp_no)))) (as_cons (ed_callTy c_list (by rfl) T.z_list bo_list (os_cons (oe_var (pv 1)) (os_nil))) (as_nil)))))) (oe_val (ed_bin o_sub (oe_var (pv 4)) (oe_val (ed_int)))) (fun _ _ => rfl))))))))
/-! ### judge_row -/
abbrev st_judge_row : Stmt := top 21
theorem sc_judge_row : FnScope ["worths", "value", "n", "c"] ["worths", "value"] (defScope st_judge_row) := ⟨rfl, rfl, rfl, by decide +kernel, rfl, by decide +kernel, by decide +kernel⟩
def b_judge_row : FS :=
  bCons (sIf (tNot (tOf (eCall p_is_row (aCons (fVar 1) (aNil))))) (sRet (eTup (aCons (fC (.str "form")) (aNil)))) (sNx))
  (bCons (sFor (iEnumD (aCons (fVar 0) (aNil))) (gT 2 (gsCons (gN 2) (gsCons (gN 3) (gsNil)))) (sIf (tOf (eBin lNe (oVal (eCall p_row_at (aCons (fVar 1) (aCons (fVar 2) (aNil))))) (oVar 3))) (sRet (eTup (aCons (fC (.str "at")) (aCons (fVar 2) (aCons (fVar 3) (aNil)))))) (sNx)))
  (sRet (eIf (tOf (eBin gGt (oVal (eB gLenD (oCons (oVar 1) (oNil)))) (oVal (eB gLenD (oCons (oVar 0) (oNil)))))) (eTup (aCons (fC (.str "longer")) (aCons (eB gLenD (oCons (oVal (eCall p_row_through (aCons (fVar 0) (aNil)))) (oNil))) (aNil)))) (fC .none))))
def p_judge_row : List D → Option Rs := runD 2 4 b_judge_row
theorem ok_judge_row (d : Def K mg "judge_row" st_judge_row ["worths", "value"]) (T : Mg K mg) (sys : ∃ o, base.get? sysModules = some o) (c_is_row : Cal P w K mg base 3 "is_row" ["value"] (spD K p_is_row)) (c_row_at : Cal P w K mg base 3 "row_at" ["row", "n"] (spD K p_row_at)) (c_row_through : Cal P w K mg base 3 "row_through" ["worths"] (spD K p_row_through)) : Cal P w K mg base 4 "judge_row" ["worths", "value"] (spD K p_judge_row) :=
  cal_D (k := 3) d sc_judge_row fun f cdv A outer s H E gd hr =>
  bd_cons (sd_if (td_not (td_val (ec c_is_row gd (hr.mono (by decide)) (by rfl) (as_cons (ed_var (pv 1)) (as_nil))))) (bd_one (sd_ret (ed_tup (as_cons (ed_str) (as_nil))))) (bd_nil))
  (bd_cons (sd_for PassesOwn.never rfl (id_enum (by rfl) T.z_enumerate (as_cons (ed_var (pv 0)) (as_nil))) (gd_tup rfl (gds_cons (gd_name sc_judge_row.nd rfl (by first | exact Or.inl rfl | exact Or.inr rfl)) (gds_cons (gd_name sc_judge_row.nd rfl (by first | exact Or.inl rfl | exact Or.inr rfl)) (gds_nil)))) (bd_one (sd_if (td_cmp (l_ne (u64 hr)) (oe_val (ec c_row_at gd (hr.mono (by decide)) (by rfl) (as_cons (ed_var (pv 1)) (as_cons (ed_var (pv 2)) (as_nil))))) (oe_var (pv 3)) (nomark _)) (bd_one (sd_ret (ed_tup (as_cons (ed_str) (as_cons (ed_var (pv 2)) (as_cons (ed_var (pv 3)) (as_nil))))))) (bd_nil))))
  (bd_one (sd_ret (ed_if (td_cmp o_gt (oe_val (ed_callB c_lenD (by rfl) T.z_len bo_len (os_cons (oe_var (pv 1)) (os_nil)))) (oe_val (ed_callB c_lenD (by rfl) T.z_len bo_len (os_cons (oe_var (pv 0)) (os_nil)))) (nomark _)) (ed_tup (as_cons (ed_str) (as_cons (ed_callB c_lenD (by rfl) T.z_len bo_len (os_cons (oe_val (ec c_row_through gd (hr.mono (by decide)) (by rfl) (as_cons (ed_var (pv 0)) (as_nil)))) (os_nil))) (as_nil)))) (ed_non)))))
/-! ### _law_is_int -/
abbrev st__law_is_int : Stmt := top 28
theorem sc__law_is_int : FnScope ["value"] ["value"] (defScope st__law_is_int) := ⟨rfl, rfl, rfl, by decide +kernel, rfl, by decide +kernel, by decide +kernel⟩
def b__law_is_int : FS :=
  sRet (eAnd (eInst (oVar 0) "int") (eNot (eInst (oVar 0) "bool")))
def p__law_is_int : List D → Option Rs := runD 1 1 b__law_is_int
theorem ok__law_is_int (d : Def K mg "_law_is_int" st__law_is_int ["value"]) (T : Mg K mg) (sys : ∃ o, base.get? sysModules = some o) : Cal P w K mg base 1 "_law_is_int" ["value"] (spD K p__law_is_int) :=
  cal_D (k := 0) d sc__law_is_int fun f cdv A outer s H E gd hr =>
  bd_one (sd_ret (ed_and (ed_inst (by rfl) T.z_isinstance bo_isinstance (by rfl) T.z_int bo_int (oe_var (pv 0))) (ed_one (ed_not (ed_inst (by rfl) T.z_isinstance bo_isinstance (by rfl) T.z_bool bo_bool (oe_var (pv 0)))))))
/-! ### _law_is_fraction -/
abbrev st__law_is_fraction : Stmt := top 34
theorem sc__law_is_fraction : FnScope ["value", "x"] ["value"] (defScope st__law_is_fraction) := ⟨rfl, rfl, rfl, by decide +kernel, rfl, by decide +kernel, by decide +kernel⟩
def b__law_is_fraction : FS :=
  bCons (sIf (tOr (tNot (tOf (eInst (oVar 0) "tuple"))) (tOr (tOf (eBin lNe (oVal (eB gLenD (oCons (oVar 0) (oNil)))) (oVal (fC (.int 2))))) (tOf (eBin lNe (oVal (eComp [1] (iSeq (fVar 0)) (gN 1) (tNot (tOf (eCall p__law_is_int (aCons (fVar 1) (aNil))))) (fVar 1))) (oVal (eLst (aNil))))))) (sRet (fC (.bool false))) (sNx))
  (sRet (eAnd (eBin gGt (oVal (eBin gIx (oVar 0) (oVal (fC (.int 1))))) (oVal (fC (.int 0)))) (eBin qEq (oVal (eCall p__law_fraction (aCons (eBin gIx (oVar 0) (oVal (fC (.int 0)))) (aCons (eBin gIx (oVar 0) (oVal (fC (.int 1)))) (aNil))))) (oVar 0))))
def p__law_is_fraction : List D → Option Rs := runD 1 2 b__law_is_fraction
theorem ok__law_is_fraction (d : Def K mg "_law_is_fraction" st__law_is_fraction ["value"]) (T : Mg K mg) (sys : ∃ o, base.get? sysModules = some o) (c__law_fraction : Cal P w K mg base 1 "_law_fraction" ["p", "q"] (spD K p__law_fraction)) (c__law_is_int : Cal P w K mg base 1 "_law_is_int" ["value"] (spD K p__law_is_int)) : Cal P w K mg base 2 "_law_is_fraction" ["value"] (spD K p__law_is_fraction) :=
  cal_D (k := 1) d sc__law_is_fraction fun f cdv A outer s H E gd hr =>
  bd_cons (sd_if (PW.pt (wd_or (td_not (td_val (ed_inst (by rfl) T.z_isinstance bo_isinstance (by rfl) T.z_tuple bo_tuple (oe_var (pv 0))))) (wd_or (td_cmp (l_ne (u64 hr)) (oe_val (ed_callB c_lenD (by rfl) T.z_len bo_len (os_cons (oe_var (pv 0)) (os_nil)))) (oe_val (ed_int)) (nomark _)) (wd_or1 (td_cmp (l_ne (u64 hr)) (oe_val (ed_lc (own := [("x", 1)]) rfl sc__law_is_fraction.nd (id_seq (ed_var (pv 0))) (blk_of (by rfl)) (fun _ _ _ _ _ => gv_name sc__law_is_fraction.nd rfl (by first | exact Or.inl rfl | exact Or.inr rfl) (by simp)) (fun _ _ _ _ _ => pts_one (td_not (td_val (ec c__law_is_int gd (hr.mono (by decide)) (by rfl) (as_cons (ed_var (pv 1)) (as_nil)))))) (fun _ _ _ _ _ => ed_var (pv 1)))) (oe_val (ed_lst (as_nil))) (nomark _)))))) (bd_one (sd_ret (ed_bl))) (bd_nil))
  (bd_one (sd_ret (ed_and (ed_cmp o_gt (oe_val (ed_sub (oe_var (pv 0)) (oe_val (ed_int)) (fun _ _ => rfl))) (oe_val (ed_int)) (nomark _)) (ed_one (ed_cmp (q_eq (u64 hr)) (oe_val (ec c__law_fraction gd (hr.mono (by decide)) (by rfl) (as_cons (ed_sub (oe_var (pv 0)) (oe_val (ed_int)) (fun _ _ => rfl)) (as_cons (ed_sub (oe_var (pv 0)) (oe_val (ed_int)) (fun _ _ => rfl)) (as_nil))))) (oe_var (pv 0)) (nomark _))))))
/-! ### _law_is_row -/
abbrev st__law_is_row : Stmt := top 37
theorem sc__law_is_row : FnScope ["value", "c"] ["value"] (defScope st__law_is_row) := ⟨rfl, rfl, rfl, by decide +kernel, rfl, by decide +kernel, by decide +kernel⟩
def b__law_is_row : FS :=
  bCons (sIf (tOr (tNot (tOf (eInst (oVar 0) "tuple"))) (tOf (eBin lNe (oVal (eComp [1] (iSeq (fVar 0)) (gN 1) (tNot (tOf (eCall p__law_is_fraction (aCons (fVar 1) (aNil))))) (fVar 1))) (oVal (eLst (aNil)))))) (sRet (fC (.bool false))) (sNx))
  (sRet (eOr (eBin qEq (oVar 0) (oVal (eTup (aNil)))) (eBin lNe (oVal (eBin gIx (oVar 0) (oVal (eUn gNeg (oVal (fC (.int 1))))))) (oVal (eTup (aCons (fC (.int 0)) (aCons (fC (.int 1)) (aNil))))))))
def p__law_is_row : List D → Option Rs := runD 1 2 b__law_is_row
theorem ok__law_is_row (d : Def K mg "_law_is_row" st__law_is_row ["value"]) (T : Mg K mg) (sys : ∃ o, base.get? sysModules = some o) (c__law_is_fraction : Cal P w K mg base 2 "_law_is_fraction" ["value"] (spD K p__law_is_fraction)) : Cal P w K mg base 3 "_law_is_row" ["value"] (spD K p__law_is_row) :=
  cal_D (k := 2) d sc__law_is_row fun f cdv A outer s H E gd hr =>
  bd_cons (sd_if (PW.pt (wd_or (td_not (td_val (ed_inst (by rfl) T.z_isinstance bo_isinstance (by rfl) T.z_tuple bo_tuple (oe_var (pv 0))))) (wd_or1 (td_cmp (l_ne (u64 hr)) (oe_val (ed_lc (own := [("c", 1)]) rfl sc__law_is_row.nd (id_seq (ed_var (pv 0))) (blk_of (by rfl)) (fun _ _ _ _ _ => gv_name sc__law_is_row.nd rfl (by first | exact Or.inl rfl | exact Or.inr rfl) (by simp)) (fun _ _ _ _ _ => pts_one (td_not (td_val (ec c__law_is_fraction gd (hr.mono (by decide)) (by rfl) (as_cons (ed_var (pv 1)) (as_nil)))))) (fun _ _ _ _ _ => ed_var (pv 1)))) (oe_val (ed_lst (as_nil))) (nomark _))))) (bd_one (sd_ret (ed_bl))) (bd_nil))
  (bd_one (sd_ret (ed_or (ed_cmp (q_eq (u64 hr)) (oe_var (pv 0)) (oe_val (ed_tup (as_nil))) (nomark _)) (ed_one (ed_cmp (l_ne (u64 hr)) (oe_val (ed_sub (oe_var (pv 0)) (oe_val (ed_un u_neg (oe_val (ed_int)))) (fun _ _ => rfl))) (oe_val (ed_tup (as_cons (ed_int) (as_cons (ed_int) (as_nil))))) (nomark _))))))
/-! ### _law_choose -/
abbrev st__law_choose : Stmt := top 35
theorem sc__law_choose : FnScope ["n", "k", "top", "bottom", "i"] ["n", "k"] (defScope st__law_choose) := ⟨rfl, rfl, rfl, by decide +kernel, rfl, by decide +kernel, by decide +kernel⟩
def b__law_choose : FS :=
  bCons (sPar [2, 3] (rCons (fC (.int 1)) (rCons (fC (.int 1)) (rNil))))
  (bCons (sFor (iRg1 (oCons (oVar 1) (oNil))) (gN 4) (sPar [2, 3] (rCons (eBin gMulW (oVar 2) (oVal (eBin gSub (oVar 0) (oVar 4)))) (rCons (eBin gMulW (oVar 3) (oVal (eBin gAdd (oVar 4) (oVal (fC (.int 1)))))) (rNil)))))
  (sRet (eBin gDivW (oVar 2) (oVar 3))))
def p__law_choose : List D → Option Rs := runD 2 5 b__law_choose
theorem ok__law_choose (d : Def K mg "_law_choose" st__law_choose ["n", "k"]) (T : Mg K mg) (sys : ∃ o, base.get? sysModules = some o) : Cal P w K mg base 1 "_law_choose" ["n", "k"] (spD K p__law_choose) :=
  cal_D (k := 0) d sc__law_choose fun f cdv A outer s H E gd hr =>
  bd_cons (sd_parG rfl (gs_cons (i := 2) sc__law_choose.nd rfl (by first | exact Or.inl rfl | exact Or.inr rfl) (gs_cons (i := 3) sc__law_choose.nd rfl (by first | exact Or.inl rfl | exact Or.inr rfl) (gs_nil))) (rs_cons (ed_int) (rs_cons (ed_int) (rs_nil))) (small_le (by decide)))
  (bd_cons (sd_for PassesOwn.never rfl (id_rg1 (by rfl) T.z_range (os_cons (oe_var (pv 1)) (os_nil))) (gd_name sc__law_choose.nd rfl (by first | exact Or.inl rfl | exact Or.inr rfl)) (bd_one (sd_par (i := 2) (j := 3) rfl sc__law_choose.nd rfl rfl (by decide) rfl rfl (rs_cons (ed_bin o_mulW (oe_var (pv 2)) (oe_val (ed_bin o_sub (oe_var (pv 0)) (oe_var (pv 4))))) (rs_cons (ed_bin o_mulW (oe_var (pv 3)) (oe_val (ed_bin o_add (oe_var (pv 4)) (oe_val (ed_int))))) (rs_nil))) rfl)))
  (bd_one (sd_ret (ed_bin o_divW (oe_var (pv 2)) (oe_var (pv 3))))))
/-! ### _law_row_at -/
abbrev st__law_row_at : Stmt := top 36
theorem sc__law_row_at : FnScope ["row", "n", "total", "k", "c"] ["row", "n"] (defScope st__law_row_at) := ⟨rfl, rfl, rfl, by decide +kernel, rfl, by decide +kernel, by decide +kernel⟩
def b__law_row_at : FS :=
  bCons (sSet 2 (eTup (aCons (fC (.int 0)) (aCons (fC (.int 1)) (aNil)))))
  (bCons (sFor (iEnumD (aCons (fVar 0) (aNil))) (gT 2 (gsCons (gN 3) (gsCons (gN 4) (gsNil)))) (sSet 2 (eCall p__law_plus (aCons (fVar 2) (aCons (eCall p__law_by (aCons (eTup (aCons (eCall p__law_choose (aCons (fVar 1) (aCons (fVar 3) (aNil)))) (aCons (fC (.int 1)) (aNil)))) (aCons (fVar 4) (aNil)))) (aNil))))))
  (sRetV 2))
def p__law_row_at : List D → Option Rs := runD 2 5 b__law_row_at
theorem ok__law_row_at (d : Def K mg "_law_row_at" st__law_row_at ["row", "n"]) (T : Mg K mg) (sys : ∃ o, base.get? sysModules = some o) (c__law_by : Cal P w K mg base 2 "_law_by" ["a", "b"] (spD K p__law_by)) (c__law_choose : Cal P w K mg base 1 "_law_choose" ["n", "k"] (spD K p__law_choose)) (c__law_plus : Cal P w K mg base 2 "_law_plus" ["a", "b"] (spD K p__law_plus)) : Cal P w K mg base 3 "_law_row_at" ["row", "n"] (spD K p__law_row_at) :=
  cal_D (k := 2) d sc__law_row_at fun f cdv A outer s H E gd hr =>
  bd_cons (sd_set (i := 2) sc__law_row_at.nd rfl (by first | exact Or.inl rfl | exact Or.inr rfl) (ed_tup (as_cons (ed_int) (as_cons (ed_int) (as_nil)))))
  (bd_cons (sd_for PassesOwn.never rfl (id_enum (by rfl) T.z_enumerate (as_cons (ed_var (pv 0)) (as_nil))) (gd_tup rfl (gds_cons (gd_name sc__law_row_at.nd rfl (by first | exact Or.inl rfl | exact Or.inr rfl)) (gds_cons (gd_name sc__law_row_at.nd rfl (by first | exact Or.inl rfl | exact Or.inr rfl)) (gds_nil)))) (bd_one (sd_set (i := 2) sc__law_row_at.nd rfl (by first | exact Or.inl rfl | exact Or.inr rfl) (ec c__law_plus gd (hr.mono (by decide)) (by rfl) (as_cons (ed_var (pv 2)) (as_cons (ec c__law_by gd (hr.mono (by decide)) (by rfl) (as_cons (ed_tup (as_cons (ec c__law_choose gd (hr.mono (by decide)) (by rfl) (as_cons (ed_var (pv 1)) (as_cons (ed_var (pv 3)) (as_nil)))) (as_cons (ed_int) (as_nil)))) (as_cons (ed_var (pv 4)) (as_nil)))) (as_nil)))))))
  (bd_one (sd_retV (pv 2))))
/-! ### _law_row_fault -/
abbrev st__law_row_fault : Stmt := top 39
theorem sc__law_row_fault : FnScope ["worths", "value", "wrong", "n"] ["worths", "value"] (defScope st__law_row_fault) := ⟨rfl, rfl, rfl, by decide +kernel, rfl, by decide +kernel, by decide +kernel⟩
def b__law_row_fault : FS :=
  bCons (sIf (tNot (tOf (eCall p__law_is_row (aCons (fVar 1) (aNil))))) (sRet (eTup (aCons (fC (.str "form")) (aNil)))) (sNx))
  (bCons (sSet 2 (eComp [3] (iRg1 (oCons (oVal (eB gLenD (oCons (oVar 0) (oNil)))) (oNil))) (gN 3) (tOf (eBin lNe (oVal (eCall p__law_row_at (aCons (fVar 1) (aCons (fVar 3) (aNil))))) (oVal (eBin gIx (oVar 0) (oVar 3))))) (fVar 3)))
  (bCons (sIf (tOf (eBin lNe (oVar 2) (oVal (eLst (aNil))))) (sRet (eTup (aCons (fC (.str "at")) (aCons (eBin gIx (oVar 2) (oVal (fC (.int 0)))) (aCons (eBin gIx (oVar 0) (oVal (eBin gIx (oVar 2) (oVal (fC (.int 0)))))) (aNil)))))) (sNx))
  (sRet (eIf (tOf (eBin gGt (oVal (eB gLenD (oCons (oVar 1) (oNil)))) (oVal (eB gLenD (oCons (oVar 0) (oNil)))))) (eTup (aCons (fC (.str "longer")) (aCons (eB gLenD (oCons (oVal (eCall p__law_through (aCons (fVar 0) (aNil)))) (oNil))) (aNil)))) (fC .none)))))
def p__law_row_fault : List D → Option Rs := runD 2 4 b__law_row_fault
theorem ok__law_row_fault (d : Def K mg "_law_row_fault" st__law_row_fault ["worths", "value"]) (T : Mg K mg) (sys : ∃ o, base.get? sysModules = some o) (c__law_is_row : Cal P w K mg base 3 "_law_is_row" ["value"] (spD K p__law_is_row)) (c__law_row_at : Cal P w K mg base 3 "_law_row_at" ["row", "n"] (spD K p__law_row_at)) (c__law_through : Cal P w K mg base 3 "_law_through" ["worths"] (spD K p__law_through)) : Cal P w K mg base 4 "_law_row_fault" ["worths", "value"] (spD K p__law_row_fault) :=
  cal_D (k := 3) d sc__law_row_fault fun f cdv A outer s H E gd hr =>
  bd_cons (sd_if (td_not (td_val (ec c__law_is_row gd (hr.mono (by decide)) (by rfl) (as_cons (ed_var (pv 1)) (as_nil))))) (bd_one (sd_ret (ed_tup (as_cons (ed_str) (as_nil))))) (bd_nil))
  (bd_cons (sd_setLc (i := 2) (own := [("n", 3)]) rfl sc__law_row_fault.nd rfl rfl rfl (id_rg1 (by rfl) T.z_range (os_cons (oe_val (ed_callB c_lenD (by rfl) T.z_len bo_len (os_cons (oe_var (pv 0)) (os_nil)))) (os_nil))) (blk_of (by rfl)) (fun _ _ _ _ _ => gv_name sc__law_row_fault.nd rfl (by first | exact Or.inl rfl | exact Or.inr rfl) (by simp)) (fun _ _ _ _ _ => pts_one (td_cmp (l_ne (u64 hr)) (oe_val (ec c__law_row_at gd (hr.mono (by decide)) (by rfl) (as_cons (ed_var (pv 1)) (as_cons (ed_var (pv 3)) (as_nil))))) (oe_val (ed_sub (oe_var (pv 0)) (oe_var (pv 3)) (fun _ _ => rfl))) (nomark _))) (fun _ _ _ _ _ => ed_var (pv 3)))
  (bd_cons (sd_if (td_cmp (l_ne (u64 hr)) (oe_var (pv 2)) (oe_val (ed_lst (as_nil))) (nomark _)) (bd_one (sd_ret (ed_tup (as_cons (ed_str) (as_cons (ed_sub (oe_var (pv 2)) (oe_val (ed_int)) (fun _ _ => rfl)) (as_cons (ed_sub (oe_var (pv 0)) (oe_val (ed_sub (oe_var (pv 2)) (oe_val (ed_int)) (fun _ _ => rfl))) (fun _ _ => rfl)) (as_nil))))))) (bd_nil))
  (bd_one (sd_ret (ed_if (td_cmp o_gt (oe_val (ed_callB c_lenD (by rfl) T.z_len bo_len (os_cons (oe_var (pv 1)) (os_nil)))) (oe_val (ed_callB c_lenD (by rfl) T.z_len bo_len (os_cons (oe_var (pv 0)) (os_nil)))) (nomark _)) (ed_tup (as_cons (ed_str) (as_cons (ed_callB c_lenD (by rfl) T.z_len bo_len (os_cons (oe_val (ec c__law_through gd (hr.mono (by decide)) (by rfl) (as_cons (ed_var (pv 0)) (as_nil)))) (os_nil))) (as_nil)))) (ed_non))))))
/-! ### _law_at -/
abbrev st__law_at : Stmt := top 40
theorem sc__law_at : FnScope ["mean", "n"] ["mean", "n"] (defScope st__law_at) := ⟨rfl, rfl, rfl, by decide +kernel, rfl, by decide +kernel, by decide +kernel⟩
def b__law_at : FS :=
  sRet (eIf (tOf (eBin gLt (oVar 1) (oVal (eB gLenD (oCons (oVal (eBin gIx (oVar 0) (oVal (fC (.int 1))))) (oNil)))))) (eBin gIx (oVal (eBin gIx (oVar 0) (oVal (fC (.int 1))))) (oVar 1)) (eCall p__law_row_at (aCons (eBin gIx (oVar 0) (oVal (fC (.int 0)))) (aCons (fVar 1) (aNil)))))
def p__law_at : List D → Option Rs := runD 2 2 b__law_at
theorem ok__law_at (d : Def K mg "_law_at" st__law_at ["mean", "n"]) (T : Mg K mg) (sys : ∃ o, base.get? sysModules = some o) (c__law_row_at : Cal P w K mg base 3 "_law_row_at" ["row", "n"] (spD K p__law_row_at)) : Cal P w K mg base 4 "_law_at" ["mean", "n"] (spD K p__law_at) :=
  cal_D (k := 3) d sc__law_at fun f cdv A outer s H E gd hr =>
  bd_one (sd_ret (ed_if (td_cmp o_lt (oe_var (pv 1)) (oe_val (ed_callB c_lenD (by rfl) T.z_len bo_len (os_cons (oe_val (ed_sub (oe_var (pv 0)) (oe_val (ed_int)) (fun _ _ => rfl))) (os_nil)))) (nomark _)) (ed_sub (oe_val (ed_sub (oe_var (pv 0)) (oe_val (ed_int)) (fun _ _ => rfl))) (oe_var (pv 1)) (fun _ _ => rfl)) (ec c__law_row_at gd (hr.mono (by decide)) (by rfl) (as_cons (ed_sub (oe_var (pv 0)) (oe_val (ed_int)) (fun _ _ => rfl)) (as_cons (ed_var (pv 1)) (as_nil))))))
/-! ### _law_late_fault -/
abbrev st__law_late_fault : Stmt := top 41
theorem sc__law_late_fault : FnScope ["mean", "value", "many", "wrong", "one", "n"] ["mean", "value"] (defScope st__law_late_fault) := ⟨rfl, rfl, rfl, by decide +kernel, rfl, by decide +kernel, by decide +kernel⟩
def b__law_late_fault : FS :=
  bCons (sIf (tOr (tNot (tOf (eInst (oVar 1) "tuple"))) (tOr (tOf (eBin lNe (oVal (eB gLenD (oCons (oVar 1) (oNil)))) (oVal (fC (.int 2))))) (tOr (tNot (tOf (eCall p__law_is_row (aCons (eBin gIx (oVar 1) (oVal (fC (.int 0)))) (aNil))))) (tNot (tOf (eInst (oVal (eBin gIx (oVar 1) (oVal (fC (.int 1))))) "tuple")))))) (sRet (eTup (aCons (fC (.str "form")) (aNil)))) (sNx))
  (bCons (sIf (tOf (eBin lNe (oVal (eComp [4] (iSeq (eBin gIx (oVar 1) (oVal (fC (.int 1))))) (gN 4) (tNot (tOf (eCall p__law_is_fraction (aCons (fVar 4) (aNil))))) (fVar 4))) (oVal (eLst (aNil))))) (sRet (eTup (aCons (fC (.str "form")) (aNil)))) (sNx))
  (bCons (sIf (tAnd (tOf (eBin lNe (oVal (eBin gIx (oVar 1) (oVal (fC (.int 1))))) (oVal (eTup (aNil))))) (tOf (eBin qEq (oVal (eBin gIx (oVal (eBin gIx (oVar 1) (oVal (fC (.int 1))))) (oVal (eUn gNeg (oVal (fC (.int 1))))))) (oVal (eCall p__law_row_at (aCons (eBin gIx (oVar 1) (oVal (fC (.int 0)))) (aCons (eBin gSub (oVal (eB gLenD (oCons (oVal (eBin gIx (oVar 1) (oVal (fC (.int 1))))) (oNil)))) (oVal (fC (.int 1)))) (aNil)))))))) (sRet (eTup (aCons (fC (.str "form")) (aNil)))) (sNx))
  (bCons (sSet 2 (eBin gAdd (oVal (eB gMax (oCons (oVal (eB gLenD (oCons (oVal (eBin gIx (oVar 0) (oVal (fC (.int 1))))) (oNil)))) (oCons (oVal (eB gLenD (oCons (oVal (eBin gIx (oVar 1) (oVal (fC (.int 1))))) (oNil)))) (oNil))))) (oVal (eB gMax (oCons (oVal (eB gLenD (oCons (oVal (eBin gIx (oVar 0) (oVal (fC (.int 0))))) (oNil)))) (oCons (oVal (eB gLenD (oCons (oVal (eBin gIx (oVar 1) (oVal (fC (.int 0))))) (oNil)))) (oNil)))))))
  (bCons (sSet 3 (eComp [5] (iRg1 (oCons (oVal (eBin gAdd (oVar 2) (oVal (fC (.int 1))))) (oNil))) (gN 5) (tOf (eBin lNe (oVal (eCall p__law_at (aCons (fVar 1) (aCons (fVar 5) (aNil))))) (oVal (eCall p__law_at (aCons (fVar 0) (aCons (fVar 5) (aNil))))))) (fVar 5)))
  (sRet (eIf (tOf (eBin lNe (oVar 3) (oVal (eLst (aNil))))) (eTup (aCons (fC (.str "at")) (aCons (eBin gIx (oVar 3) (oVal (fC (.int 0)))) (aCons (eCall p__law_at (aCons (fVar 0) (aCons (eBin gIx (oVar 3) (oVal (fC (.int 0)))) (aNil)))) (aNil))))) (fC .none)))))))
def p__law_late_fault : List D → Option Rs := runD 2 6 b__law_late_fault
theorem ok__law_late_fault (d : Def K mg "_law_late_fault" st__law_late_fault ["mean", "value"]) (T : Mg K mg) (sys : ∃ o, base.get? sysModules = some o) (c__law_at : Cal P w K mg base 4 "_law_at" ["mean", "n"] (spD K p__law_at)) (c__law_is_fraction : Cal P w K mg base 2 "_law_is_fraction" ["value"] (spD K p__law_is_fraction)) (c__law_is_row : Cal P w K mg base 3 "_law_is_row" ["value"] (spD K p__law_is_row)) (c__law_row_at : Cal P w K mg base 3 "_law_row_at" ["row", "n"] (spD K p__law_row_at)) : Cal P w K mg base 5 "_law_late_fault" ["mean", "value"] (spD K p__law_late_fault) :=
  cal_D (k := 4) d sc__law_late_fault fun f cdv A outer s H E gd hr =>
  bd_cons (sd_if (PW.pt (wd_or (td_not (td_val (ed_inst (by rfl) T.z_isinstance bo_isinstance (by rfl) T.z_tuple bo_tuple (oe_var (pv 1))))) (wd_or (td_cmp (l_ne (u64 hr)) (oe_val (ed_callB c_lenD (by rfl) T.z_len bo_len (os_cons (oe_var (pv 1)) (os_nil)))) (oe_val (ed_int)) (nomark _)) (wd_or (td_not (td_val (ec c__law_is_row gd (hr.mono (by decide)) (by rfl) (as_cons (ed_sub (oe_var (pv 1)) (oe_val (ed_int)) (fun _ _ => rfl)) (as_nil))))) (wd_or1 (td_not (td_val (ed_inst (by rfl) T.z_isinstance bo_isinstance (by rfl) T.z_tuple bo_tuple (oe_val (ed_sub (oe_var (pv 1)) (oe_val (ed_int)) (fun _ _ => rfl))))))))))) (bd_one (sd_ret (ed_tup (as_cons (ed_str) (as_nil))))) (bd_nil))
  (bd_cons (sd_if (td_cmp (l_ne (u64 hr)) (oe_val (ed_lc (own := [("one", 4)]) rfl sc__law_late_fault.nd (id_seq (ed_sub (oe_var (pv 1)) (oe_val (ed_int)) (fun _ _ => rfl))) (blk_of (by rfl)) (fun _ _ _ _ _ => gv_name sc__law_late_fault.nd rfl (by first | exact Or.inl rfl | exact Or.inr rfl) (by simp)) (fun _ _ _ _ _ => pts_one (td_not (td_val (ec c__law_is_fraction gd (hr.mono (by decide)) (by rfl) (as_cons (ed_var (pv 4)) (as_nil)))))) (fun _ _ _ _ _ => ed_var (pv 4)))) (oe_val (ed_lst (as_nil))) (nomark _)) (bd_one (sd_ret (ed_tup (as_cons (ed_str) (as_nil))))) (bd_nil))
  (bd_cons (sd_if (PW.pt (wd_and (td_cmp (l_ne (u64 hr)) (oe_val (ed_sub (oe_var (pv 1)) (oe_val (ed_int)) (fun _ _ => rfl))) (oe_val (ed_tup (as_nil))) (nomark _)) (wd_and1 (td_cmp (q_eq (u64 hr)) (oe_val (ed_sub (oe_val (ed_sub (oe_var (pv 1)) (oe_val (ed_int)) (fun _ _ => rfl))) (oe_val (ed_un u_neg (oe_val (ed_int)))) (fun _ _ => rfl))) (oe_val (ec c__law_row_at gd (hr.mono (by decide)) (by rfl) (as_cons (ed_sub (oe_var (pv 1)) (oe_val (ed_int)) (fun _ _ => rfl)) (as_cons (ed_bin o_sub (oe_val (ed_callB c_lenD (by rfl) T.z_len bo_len (os_cons (oe_val (ed_sub (oe_var (pv 1)) (oe_val (ed_int)) (fun _ _ => rfl))) (os_nil)))) (oe_val (ed_int))) (as_nil))))) (nomark _))))) (bd_one (sd_ret (ed_tup (as_cons (ed_str) (as_nil))))) (bd_nil))
  (bd_cons (sd_set (i := 2) sc__law_late_fault.nd rfl (by first | exact Or.inl rfl | exact Or.inr rfl) (ed_bin o_add (oe_val (ed_callB (c_max rfl) (by rfl) T.z_max bo_max (os_cons (oe_val (ed_callB c_lenD (by rfl) T.z_len bo_len (os_cons (oe_val (ed_sub (oe_var (pv 0)) (oe_val (ed_int)) (fun _ _ => rfl))) (os_nil)))) (os_cons (oe_val (ed_callB c_lenD (by rfl) T.z_len bo_len (os_cons (oe_val (ed_sub (oe_var (pv 1)) (oe_val (ed_int)) (fun _ _ => rfl))) (os_nil)))) (os_nil))))) (oe_val (ed_callB (c_max rfl) (by rfl) T.z_max bo_max (os_cons (oe_val (ed_callB c_lenD (by rfl) T.z_len bo_len (os_cons (oe_val (ed_sub (oe_var (pv 0)) (oe_val (ed_int)) (fun _ _ => rfl))) (os_nil)))) (os_cons (oe_val (ed_callB c_lenD (by rfl) T.z_len bo_len (os_cons (oe_val (ed_sub (oe_var (pv 1)) (oe_val (ed_int)) (fun _ _ => rfl))) (os_nil)))) (os_nil)))))))
  (bd_cons (sd_setLc (i := 3) (own := [("n", 5)]) rfl sc__law_late_fault.nd rfl rfl rfl (id_rg1 (by rfl) T.z_range (os_cons (oe_val (ed_bin o_add (oe_var (pv 2)) (oe_val (ed_int)))) (os_nil))) (blk_of (by rfl)) (fun _ _ _ _ _ => gv_name sc__law_late_fault.nd rfl (by first | exact Or.inl rfl | exact Or.inr rfl) (by simp)) (fun _ _ _ _ _ => pts_one (td_cmp (l_ne (u64 hr)) (oe_val (ec c__law_at gd (hr.mono (by decide)) (by rfl) (as_cons (ed_var (pv 1)) (as_cons (ed_var (pv 5)) (as_nil))))) (oe_val (ec c__law_at gd (hr.mono (by decide)) (by rfl) (as_cons (ed_var (pv 0)) (as_cons (ed_var (pv 5)) (as_nil))))) (nomark _))) (fun _ _ _ _ _ => ed_var (pv 5)))
  (bd_one (sd_ret (ed_if (td_cmp (l_ne (u64 hr)) (oe_var (pv 3)) (oe_val (ed_lst (as_nil))) (nomark _)) (ed_tup (as_cons (ed_str) (as_cons (ed_sub (oe_var (pv 3)) (oe_val (ed_int)) (fun _ _ => rfl)) (as_cons (ec c__law_at gd (hr.mono (by decide)) (by rfl) (as_cons (ed_var (pv 0)) (as_cons (ed_sub (oe_var (pv 3)) (oe_val (ed_int)) (fun _ _ => rfl)) (as_nil)))) (as_nil))))) (ed_non))))))))
/-! ### law -/
abbrev st_law : Stmt := top 42
theorem sc_law : FnScope ["script", "source", "odd", "lap", "worths", "due", "deep", "values", "value", "held", "early", "mean", "row", "first", "n", "c", "look"] ["script"] (defScope st_law) := ⟨rfl, rfl, rfl, by decide +kernel, rfl, by decide +kernel, by decide +kernel⟩
def b_law : FS :=
  bCons (sSet 2 (eLst (aCons (fC .none) (aCons (fC (.bool true)) (aCons (fC (.bool false)) (aCons (fC (.int 0)) (aCons (fC (.int 1)) (aCons (fC (.str "")) (aCons (eTup (aNil)) (aCons (eTup (aCons (eTup (aCons (fC (.int 0)) (aCons (fC (.int 1)) (aNil)))) (aNil))) (aCons (eTup (aCons (eTup (aCons (fC (.int 1)) (aCons (fC (.int 1)) (aNil)))) (aNil))) (aCons (eTup (aCons (eTup (aCons (fC (.int 2)) (aCons (fC (.int 2)) (aNil)))) (aNil))) (aCons (eTup (aCons (eTup (aCons (fC (.int 1)) (aCons (fC (.int 0)) (aNil)))) (aNil))) (aCons (eTup (aCons (eTup (aCons (fC (.bool true)) (aCons (fC (.int 1)) (aNil)))) (aNil))) (aCons (eLst (aNil)) (aCons (eDNew false) (aCons (eTup (aCons (fC (.int 1)) (aCons (fC (.int 2)) (aNil)))) (aNil))))))))))))))))))
  (bCons (sSet 2 (eBin gAdd (oVar 2) (oVal (eLst (aCons (eTup (aCons (eTup (aNil)) (aCons (eTup (aNil)) (aNil)))) (aCons (eTup (aCons (eTup (aNil)) (aCons (eTup (aCons (eTup (aCons (fC (.int 1)) (aCons (fC (.int 1)) (aNil)))) (aNil))) (aNil)))) (aCons (eTup (aCons (eTup (aCons (eTup (aCons (fC (.int 1)) (aCons (fC (.int 1)) (aNil)))) (aNil))) (aCons (eTup (aNil)) (aNil)))) (aCons (eTup (aCons (eTup (aNil)) (aCons (eTup (aCons (eTup (aCons (fC (.int 0)) (aCons (fC (.int 1)) (aNil)))) (aNil))) (aNil)))) (aCons (eBin gPow (oVal (fC (.int 10))) (oVal (fC (.int 30)))) (aCons (eTup (aCons (eLst (aNil)) (aCons (eTup (aNil)) (aNil)))) (aNil)))))))))))
  (bCons (sFor (iRg1 (oCons (oVal (fC (.int 3))) (oNil))) (gN 3) (bCons (sSet 4 (eComp [14] (iRg1 (oCons (oVal (eCallS 1 gPick (aCons (fC (.int 5)) (aNil)))) (oNil))) (gN 14) (tYs) (eCallS 1 p__law_number (aNil))))
    (bCons (sPar [5, 6] (rCons (eCall p__law_through (aCons (fVar 4) (aNil))) (rCons (eCallS 1 p__law_deep (aCons (fVar 2) (aNil))) (rNil))))
    (bCons (sIf (tOf (eBin lNe (oVal (eB gRepr (oCons (oVal (eCall p_row_through (aCons (eB gTuple (oCons (oVar 4) (oNil))) (aNil)))) (oNil)))) (oVal (eB gRepr (oCons (oVar 5) (oNil)))))) (sRet (fC (.bool false))) (sNx))
    (bCons (sSet 7 (eLst (aCons (fVar 5) (aCons (eB gList (oCons (oVar 5) (oNil))) (aCons (eSl (oVar 5) (pNo) (pIn (eUn gNeg (oVal (fC (.int 1)))))) (aCons (eSl (oVar 5) (pIn (fC (.int 1))) (pNo)) (aCons (eBin gAdd (oVar 5) (oVal (eTup (aCons (eTup (aCons (fC (.int 1)) (aCons (fC (.int 1)) (aNil)))) (aNil))))) (aCons (eBin gAdd (oVar 5) (oVal (eTup (aCons (eTup (aCons (fC (.int 0)) (aCons (fC (.int 1)) (aNil)))) (aNil))))) (aCons (eUn gRev (oVar 5)) (aCons (fVar 6) (aCons (eTup (aCons (fVar 6) (aNil))) (aNil))))))))))))
    (bCons (sSet 7 (eBin gAdd (oVar 7) (oVal (eLst (aCons (eBin gAdd (oVal (eBin gAdd (oVar 5) (oVal (eBin gMulT (oVal (eTup (aCons (eTup (aCons (fC (.int 0)) (aCons (fC (.int 1)) (aNil)))) (aNil)))) (oVal (fC (.int 3))))))) (oVal (eTup (aCons (eTup (aCons (fC (.int 5)) (aCons (fC (.int 7)) (aNil)))) (aNil))))) (aCons (eB gTuple (oCons (oVar 4) (oNil))) (aCons (eB gTuple (oCons (oVal (eComp [15] (iSeq (fVar 5)) (gN 15) (tYs) (eCall p__law_by (aCons (eTup (aCons (fC (.int 2)) (aCons (fC (.int 1)) (aNil)))) (aCons (fVar 15) (aNil)))))) (oNil))) (aNil))))))))
    (bCons (sFor (iSeq (eBin gAdd (oVal (eBin gAdd (oVar 7) (oVar 2))) (oVal (eComp [16] (iRg1 (oCons (oVal (fC (.int 8))) (oNil))) (gN 16) (tYs) (eCallS 1 (p__law_bent rec__law_bent) (aCons (fVar 5) (aCons (fVar 2) (aNil)))))))) (gN 8) (bCons (sSet 9 (eB gRepr (oCons (oVar 8) (oNil))))
      (sIf (tOr (tOf (eBin lNe (oVal (eB gRepr (oCons (oVal (eCall p_judge_row (aCons (eB gList (oCons (oVar 4) (oNil))) (aCons (fVar 8) (aNil))))) (oNil)))) (oVal (eB gRepr (oCons (oVal (eCall p__law_row_fault (aCons (fVar 4) (aCons (fVar 8) (aNil))))) (oNil)))))) (tOf (eBin lNe (oVal (eB gRepr (oCons (oVar 8) (oNil)))) (oVar 9)))) (sRet (fC (.bool false))) (sNx))))
    (bCons (sSet 10 (eComp [14] (iRg1 (oCons (oVal (eCallS 1 gPick (aCons (fC (.int 5)) (aNil)))) (oNil))) (gN 14) (tYs) (eCallS 1 p__law_number (aNil))))
    (bCons (sSet 11 (eCall p_mean_pair (aCons (fVar 5) (aCons (fVar 10) (aNil)))))
    (bCons (sAsg (fVar 11) (gT 2 (gsCons (gN 12) (gsCons (gN 13) (gsNil)))))
    (bCons (sSet 7 (eLst (aCons (fVar 11) (aCons (eB gList (oCons (oVar 11) (oNil))) (aCons (eTup (aCons (fVar 12) (aCons (eTup (aNil)) (aNil)))) (aCons (eTup (aCons (eTup (aNil)) (aCons (fVar 13) (aNil)))) (aCons (eTup (aCons (fVar 12) (aCons (eSl (oVar 13) (pNo) (pIn (eUn gNeg (oVal (fC (.int 1)))))) (aNil)))) (aCons (eTup (aCons (fVar 12) (aCons (eBin gAdd (oVar 13) (oVal (eTup (aCons (eTup (aCons (fC (.int 9)) (aCons (fC (.int 7)) (aNil)))) (aNil))))) (aNil)))) (aNil)))))))))
    (bCons (sSet 7 (eBin gAdd (oVar 7) (oVal (eLst (aCons (eTup (aCons (fVar 5) (aCons (eB gTuple (oCons (oVar 10) (oNil))) (aNil)))) (aCons (eTup (aCons (eBin gAdd (oVar 12) (oVal (eTup (aCons (eTup (aCons (fC (.int 1)) (aCons (fC (.int 1)) (aNil)))) (aNil))))) (aCons (fVar 13) (aNil)))) (aCons (eTup (aCons (fVar 13) (aCons (fVar 12) (aNil)))) (aCons (eBin gAdd (oVar 11) (oVal (eTup (aCons (fC (.int 0)) (aNil))))) (aCons (eTup (aCons (fVar 12) (aCons (eB gList (oCons (oVar 13) (oNil))) (aNil)))) (aNil))))))))))
    (bCons (sSet 7 (eBin gAdd (oVar 7) (oVal (eLst (aCons (fVar 6) (aCons (eTup (aCons (fVar 6) (aCons (fVar 13) (aNil)))) (aNil)))))))
    (bCons (sSet 7 (eBin gAdd (oVar 7) (oVal (eLst (aCons (eTup (aCons (fVar 12) (aCons (eTup (aCons (fVar 6) (aNil))) (aNil)))) (aCons (eTup (aCons (fVar 12) (aCons (eBin gAdd (oVal (eTup (aCons (eTup (aCons (fC (.int 5)) (aCons (fC (.int 1)) (aNil)))) (aNil)))) (oVar 13)) (aNil)))) (aCons (eTup (aCons (eB gTuple (oCons (oVal (eComp [15] (iSeq (fVar 12)) (gN 15) (tYs) (eCall p__law_by (aCons (eTup (aCons (fC (.int 2)) (aCons (fC (.int 1)) (aNil)))) (aCons (fVar 15) (aNil)))))) (oNil))) (aCons (fVar 13) (aNil)))) (aNil))))))))
    (sFor (iSeq (eBin gAdd (oVal (eBin gAdd (oVar 7) (oVar 2))) (oVal (eComp [16] (iRg1 (oCons (oVal (fC (.int 10))) (oNil))) (gN 16) (tYs) (eCallS 1 (p__law_bent rec__law_bent) (aCons (fVar 11) (aCons (fVar 2) (aNil)))))))) (gN 8) (bCons (sSet 9 (eB gRepr (oCons (oVar 8) (oNil))))
      (sIf (tOr (tOf (eBin lNe (oVal (eB gRepr (oCons (oVal (eCall p_judge_late (aCons (fVar 11) (aCons (fVar 8) (aNil))))) (oNil)))) (oVal (eB gRepr (oCons (oVal (eCall p__law_late_fault (aCons (fVar 11) (aCons (fVar 8) (aNil))))) (oNil)))))) (tOf (eBin lNe (oVal (eB gRepr (oCons (oVar 8) (oNil)))) (oVar 9)))) (sRet (fC (.bool false))) (sNx))))))))))))))))))
  (sRet (eBin gIsN (oVal (eCall p_judge_late (aCons (eTup (aCons (eTup (aNil)) (aCons (eTup (aNil)) (aNil)))) (aCons (eTup (aCons (eTup (aNil)) (aCons (eTup (aNil)) (aNil)))) (aNil))))) (oVal (fC .none))))))
theorem ok_law {f : Addr} {fd : FuncData} (F : Fun K "law" "law" st_law f fd) (T : Mg K mg) (sys : ∃ o, base.get? sysModules = some o) (c__law_bent : Cal P w K mg base 11 "_law_bent" ["source", "value", "odd"] (spS K (p__law_bent rec__law_bent))) (c__law_by : Cal P w K mg base 2 "_law_by" ["a", "b"] (spD K p__law_by)) (c__law_deep : Cal P w K mg base 3 "_law_deep" ["source", "odd"] (spS K p__law_deep)) (c__law_late_fault : Cal P w K mg base 5 "_law_late_fault" ["mean", "value"] (spD K p__law_late_fault)) (c__law_number : Cal P w K mg base 3 "_law_number" ["source"] (spS K p__law_number)) (c__law_pick : Cal P w K mg base 1 "_law_pick" ["source", "most"] (spS K gPick)) (c__law_row_fault : Cal P w K mg base 4 "_law_row_fault" ["worths", "value"] (spD K p__law_row_fault)) (c__law_through : Cal P w K mg base 3 "_law_through" ["worths"] (spD K p__law_through)) (c_judge_late : Cal P w K mg base 5 "judge_late" ["mean", "value"] (spD K p_judge_late)) (c_judge_row : Cal P w K mg base 4 "judge_row" ["worths", "value"] (spD K p_judge_row)) (c_mean_pair : Cal P w K mg base 4 "mean_pair" ["row", "early"] (spD K p_mean_pair)) (c_row_through : Cal P w K mg base 3 "row_through" ["worths"] (spD K p_row_through)) (c__law_open_cells : Cal P w K mg base 1 "_law_open_cells" ["script"] (spOpen K)) (hl : ∀ S, ∃ e', b_law (lawEnv 15 S) = some (.rt (.val (.bool true)), e')) : FnG P w K mg base 12 f fd ["script"] (spLaw K) :=
  law_cal (k := 11) F sc_law rfl rfl (c__law_open_cells.mono (by decide)) rfl (by first | exact Or.inl rfl | exact Or.inr rfl) rfl (by decide) (fun cdv A outer s H E gd hr =>
  bd_cons (sd_set (i := 2) sc_law.nd rfl (by first | exact Or.inl rfl | exact Or.inr rfl) (ed_lst (as_cons (ed_non) (as_cons (ed_bl) (as_cons (ed_bl) (as_cons (ed_int) (as_cons (ed_int) (as_cons (ed_str) (as_cons (ed_tup (as_nil)) (as_cons (ed_tup (as_cons (ed_tup (as_cons (ed_int) (as_cons (ed_int) (as_nil)))) (as_nil))) (as_cons (ed_tup (as_cons (ed_tup (as_cons (ed_int) (as_cons (ed_int) (as_nil)))) (as_nil))) (as_cons (ed_tup (as_cons (ed_tup (as_cons (ed_int) (as_cons (ed_int) (as_nil)))) (as_nil))) (as_cons (ed_tup (as_cons (ed_tup (as_cons (ed_int) (as_cons (ed_int) (as_nil)))) (as_nil))) (as_cons (ed_tup (as_cons (ed_tup (as_cons (ed_bl) (as_cons (ed_int) (as_nil)))) (as_nil))) (as_cons (ed_lst (as_nil)) (as_cons (ed_dnewK) (as_cons (ed_tup (as_cons (ed_int) (as_cons (ed_int) (as_nil)))) (as_nil))))))))))))))))))
  (bd_cons (sd_set (i := 2) sc_law.nd rfl (by first | exact Or.inl rfl | exact Or.inr rfl) (ed_bin o_add (oe_var (pv 2)) (oe_val (ed_lst (as_cons (ed_tup (as_cons (ed_tup (as_nil)) (as_cons (ed_tup (as_nil)) (as_nil)))) (as_cons (ed_tup (as_cons (ed_tup (as_nil)) (as_cons (ed_tup (as_cons (ed_tup (as_cons (ed_int) (as_cons (ed_int) (as_nil)))) (as_nil))) (as_nil)))) (as_cons (ed_tup (as_cons (ed_tup (as_cons (ed_tup (as_cons (ed_int) (as_cons (ed_int) (as_nil)))) (as_nil))) (as_cons (ed_tup (as_nil)) (as_nil)))) (as_cons (ed_tup (as_cons (ed_tup (as_nil)) (as_cons (ed_tup (as_cons (ed_tup (as_cons (ed_int) (as_cons (ed_int) (as_nil)))) (as_nil))) (as_nil)))) (as_cons (ed_bin o_pow (oe_val (ed_int)) (oe_val (ed_int))) (as_cons (ed_tup (as_cons (ed_lst (as_nil)) (as_cons (ed_tup (as_nil)) (as_nil)))) (as_nil)))))))))))
  (bd_cons (sd_for PassesOwn.never rfl (id_rg1 (by rfl) T.z_range (os_cons (oe_val (ed_int)) (os_nil))) (gd_name sc_law.nd rfl (by first | exact Or.inl rfl | exact Or.inr rfl)) (bd_cons (sd_setLc (i := 4) (own := [("n", 14)]) rfl sc_law.nd rfl rfl rfl (id_rg1 (by rfl) T.z_range (os_cons (oe_val (ecS c__law_pick gd (hr.mono (by decide)) (by rfl) (pv 1) (as_cons (ed_int) (as_nil)))) (os_nil))) (blk_of (by rfl)) (fun _ _ _ _ _ => gv_name sc_law.nd rfl (by first | exact Or.inl rfl | exact Or.inr rfl) (by simp)) (fun _ _ _ _ _ => pts_yes) (fun _ _ _ _ _ => ecS c__law_number gd (hr.mono (by decide)) (by rfl) (pv 1) (as_nil)))
    (bd_cons (sd_parG rfl (gs_cons (i := 5) sc_law.nd rfl (by first | exact Or.inl rfl | exact Or.inr rfl) (gs_cons (i := 6) sc_law.nd rfl (by first | exact Or.inl rfl | exact Or.inr rfl) (gs_nil))) (rs_cons (ec c__law_through gd (hr.mono (by decide)) (by rfl) (as_cons (ed_var (pv 4)) (as_nil))) (rs_cons (ecS c__law_deep gd (hr.mono (by decide)) (by rfl) (pv 1) (as_cons (ed_var (pv 2)) (as_nil))) (rs_nil))) (small_le (by decide)))
    (bd_cons (sd_if (td_cmp (l_ne (u64 hr)) (oe_val (ed_callB (c_repr gd (hr.mono (by decide)) sys) (by rfl) T.z_repr bo_repr (os_cons (oe_val (ec c_row_through gd (hr.mono (by decide)) (by rfl) (as_cons (ed_callTy c_tuple (by rfl) T.z_tuple bo_tuple (os_cons (oe_var (pv 4)) (os_nil))) (as_nil)))) (os_nil)))) (oe_val (ed_callB (c_repr gd (hr.mono (by decide)) sys) (by rfl) T.z_repr bo_repr (os_cons (oe_var (pv 5)) (os_nil)))) (nomark _)) (bd_one (sd_ret (ed_bl))) (bd_nil))
    (bd_cons (sd_set (i := 7) sc_law.nd rfl (by first | exact Or.inl rfl | exact Or.inr rfl) (ed_lst (as_cons (ed_var (pv 5)) (as_cons (ed_callTy c_list (by rfl) T.z_list bo_list (os_cons (oe_var (pv 5)) (os_nil))) (as_cons (ed_slice (oe_var (pv 5)) (pp_no) (pp_in (ed_un u_neg (oe_val (ed_int))))) (as_cons (ed_slice (oe_var (pv 5)) (pp_in (ed_int)) (pp_no)) (as_cons (ed_bin o_add (oe_var (pv 5)) (oe_val (ed_tup (as_cons (ed_tup (as_cons (ed_int) (as_cons (ed_int) (as_nil)))) (as_nil))))) (as_cons (ed_bin o_add (oe_var (pv 5)) (oe_val (ed_tup (as_cons (ed_tup (as_cons (ed_int) (as_cons (ed_int) (as_nil)))) (as_nil))))) (as_cons (ed_rev (oe_var (pv 5))) (as_cons (ed_var (pv 6)) (as_cons (ed_tup (as_cons (ed_var (pv 6)) (as_nil))) (as_nil))))))))))))
    (bd_cons (sd_set (i := 7) sc_law.nd rfl (by first | exact Or.inl rfl | exact Or.inr rfl) (ed_bin o_add (oe_var (pv 7)) (oe_val (ed_lst (as_cons (ed_bin o_add (oe_val (ed_bin o_add (oe_var (pv 5)) (oe_val (ed_bin o_mulT (oe_val (ed_tup (as_cons (ed_tup (as_cons (ed_int) (as_cons (ed_int) (as_nil)))) (as_nil)))) (oe_val (ed_int)))))) (oe_val (ed_tup (as_cons (ed_tup (as_cons (ed_int) (as_cons (ed_int) (as_nil)))) (as_nil))))) (as_cons (ed_callTy c_tuple (by rfl) T.z_tuple bo_tuple (os_cons (oe_var (pv 4)) (os_nil))) (as_cons (ed_callTy c_tuple (by rfl) T.z_tuple bo_tuple (os_cons (oe_val (ed_lc (own := [("c", 15)]) rfl sc_law.nd (id_seq (ed_var (pv 5))) (blk_of (by rfl)) (fun _ _ _ _ _ => gv_name sc_law.nd rfl (by first | exact Or.inl rfl | exact Or.inr rfl) (by simp)) (fun _ _ _ _ _ => pts_yes) (fun _ _ _ _ _ => ec c__law_by gd (hr.mono (by decide)) (by rfl) (as_cons (ed_tup (as_cons (ed_int) (as_cons (ed_int) (as_nil)))) (as_cons (ed_var (pv 15)) (as_nil)))))) (os_nil))) (as_nil))))))))
    (bd_cons (sd_for PassesOwn.never rfl (id_seq (ed_bin o_add (oe_val (ed_bin o_add (oe_var (pv 7)) (oe_var (pv 2)))) (oe_val (ed_lc (own := [("look", 16)]) rfl sc_law.nd (id_rg1 (by rfl) T.z_range (os_cons (oe_val (ed_int)) (os_nil))) (blk_of (by rfl)) (fun _ _ _ _ _ => gv_name sc_law.nd rfl (by first | exact Or.inl rfl | exact Or.inr rfl) (by simp)) (fun _ _ _ _ _ => pts_yes) (fun _ _ _ _ _ => ecS c__law_bent gd (hr.mono (by decide)) (by rfl) (pv 1) (as_cons (ed_var (pv 5)) (as_cons (ed_var (pv 2)) (as_nil)))))))) (gd_name sc_law.nd rfl (by first | exact Or.inl rfl | exact Or.inr rfl)) (bd_cons (sd_set (i := 9) sc_law.nd rfl (by first | exact Or.inl rfl | exact Or.inr rfl) (ed_callB (c_repr gd (hr.mono (by decide)) sys) (by rfl) T.z_repr bo_repr (os_cons (oe_var (pv 8)) (os_nil))))
      (bd_one (sd_if (PW.pt (wd_or (td_cmp (l_ne (u64 hr)) (oe_val (ed_callB (c_repr gd (hr.mono (by decide)) sys) (by rfl) T.z_repr bo_repr (os_cons (oe_val (ec c_judge_row gd (hr.mono (by decide)) (by rfl) (as_cons (ed_callTy c_list (by rfl) T.z_list bo_list (os_cons (oe_var (pv 4)) (os_nil))) (as_cons (ed_var (pv 8)) (as_nil))))) (os_nil)))) (oe_val (ed_callB (c_repr gd (hr.mono (by decide)) sys) (by rfl) T.z_repr bo_repr (os_cons (oe_val (ec c__law_row_fault gd (hr.mono (by decide)) (by rfl) (as_cons (ed_var (pv 4)) (as_cons (ed_var (pv 8)) (as_nil))))) (os_nil)))) (nomark _)) (wd_or1 (td_cmp (l_ne (u64 hr)) (oe_val (ed_callB (c_repr gd (hr.mono (by decide)) sys) (by rfl) T.z_repr bo_repr (os_cons (oe_var (pv 8)) (os_nil)))) (oe_var (pv 9)) (nomark _))))) (bd_one (sd_ret (ed_bl))) (bd_nil)))))
    (bd_cons (sd_setLc (i := 10) (own := [("n", 14)]) rfl sc_law.nd rfl rfl rfl (id_rg1 (by rfl) T.z_range (os_cons (oe_val (ecS c__law_pick gd (hr.mono (by decide)) (by rfl) (pv 1) (as_cons (ed_int) (as_nil)))) (os_nil))) (blk_of (by rfl)) (fun _ _ _ _ _ => gv_name sc_law.nd rfl (by first | exact Or.inl rfl | exact Or.inr rfl) (by simp)) (fun _ _ _ _ _ => pts_yes) (fun _ _ _ _ _ => ecS c__law_number gd (hr.mono (by decide)) (by rfl) (pv 1) (as_nil)))
    (bd_cons (sd_set (i := 11) sc_law.nd rfl (by first | exact Or.inl rfl | exact Or.inr rfl) (ec c_mean_pair gd (hr.mono (by decide)) (by rfl) (as_cons (ed_var (pv 5)) (as_cons (ed_var (pv 10)) (as_nil)))))
    (bd_cons (sd_asg (ed_var (pv 11)) (gd_tup rfl (gds_cons (gd_name sc_law.nd rfl (by first | exact Or.inl rfl | exact Or.inr rfl)) (gds_cons (gd_name sc_law.nd rfl (by first | exact Or.inl rfl | exact Or.inr rfl)) (gds_nil)))))
    (bd_cons (sd_set (i := 7) sc_law.nd rfl (by first | exact Or.inl rfl | exact Or.inr rfl) (ed_lst (as_cons (ed_var (pv 11)) (as_cons (ed_callTy c_list (by rfl) T.z_list bo_list (os_cons (oe_var (pv 11)) (os_nil))) (as_cons (ed_tup (as_cons (ed_var (pv 12)) (as_cons (ed_tup (as_nil)) (as_nil)))) (as_cons (ed_tup (as_cons (ed_tup (as_nil)) (as_cons (ed_var (pv 13)) (as_nil)))) (as_cons (ed_tup (as_cons (ed_var (pv 12)) (as_cons (ed_slice (oe_var (pv 13)) (pp_no) (pp_in (ed_un u_neg (oe_val (ed_int))))) (as_nil)))) (as_cons (ed_tup (as_cons (ed_var (pv 12)) (as_cons (ed_bin o_add (oe_var (pv 13)) (oe_val (ed_tup (as_cons (ed_tup (as_cons (ed_int) (as_cons (ed_int) (as_nil)))) (as_nil))))) (as_nil)))) (as_nil)))))))))
    (bd_cons (sd_set (i := 7) sc_law.nd rfl (by first | exact Or.inl rfl | exact Or.inr rfl) (ed_bin o_add (oe_var (pv 7)) (oe_val (ed_lst (as_cons (ed_tup (as_cons (ed_var (pv 5)) (as_cons (ed_callTy c_tuple (by rfl) T.z_tuple bo_tuple (os_cons (oe_var (pv 10)) (os_nil))) (as_nil)))) (as_cons (ed_tup (as_cons (ed_bin o_add (oe_var (pv 12)) (oe_val (ed_tup (as_cons (ed_tup (as_cons (ed_int) (as_cons (ed_int) (as_nil)))) (as_nil))))) (as_cons (ed_var (pv 13)) (as_nil)))) (as_cons (ed_tup (as_cons (ed_var (pv 13)) (as_cons (ed_var (pv 12)) (as_nil)))) (as_cons (ed_bin o_add (oe_var (pv 11)) (oe_val (ed_tup (as_cons (ed_int) (as_nil))))) (as_cons (ed_tup (as_cons (ed_var (pv 12)) (as_cons (ed_callTy c_list (by rfl) T.z_list bo_list (os_cons (oe_var (pv 13)) (os_nil))) (as_nil)))) (as_nil))))))))))
    (bd_cons (sd_set (i := 7) sc_law.nd rfl (by first | exact Or.inl rfl | exact Or.inr rfl) (ed_bin o_add (oe_var (pv 7)) (oe_val (ed_lst (as_cons (ed_var (pv 6)) (as_cons (ed_tup (as_cons (ed_var (pv 6)) (as_cons (ed_var (pv 13)) (as_nil)))) (as_nil)))))))
    (bd_cons (sd_set (i := 7) sc_law.nd rfl (by first | exact Or.inl rfl | exact Or.inr rfl) (ed_bin o_add (oe_var (pv 7)) (oe_val (ed_lst (as_cons (ed_tup (as_cons (ed_var (pv 12)) (as_cons (ed_tup (as_cons (ed_var (pv 6)) (as_nil))) (as_nil)))) (as_cons (ed_tup (as_cons (ed_var (pv 12)) (as_cons (ed_bin o_add (oe_val (ed_tup (as_cons (ed_tup (as_cons (ed_int) (as_cons (ed_int) (as_nil)))) (as_nil)))) (oe_var (pv 13))) (as_nil)))) (as_cons (ed_tup (as_cons (ed_callTy c_tuple (by rfl) T.z_tuple bo_tuple (os_cons (oe_val (ed_lc (own := [("c", 15)]) rfl sc_law.nd (id_seq (ed_var (pv 12))) (blk_of (by rfl)) (fun _ _ _ _ _ => gv_name sc_law.nd rfl (by first | exact Or.inl rfl | exact Or.inr rfl) (by simp)) (fun _ _ _ _ _ => pts_yes) (fun _ _ _ _ _ => ec c__law_by gd (hr.mono (by decide)) (by rfl) (as_cons (ed_tup (as_cons (ed_int) (as_cons (ed_int) (as_nil)))) (as_cons (ed_var (pv 15)) (as_nil)))))) (os_nil))) (as_cons (ed_var (pv 13)) (as_nil)))) (as_nil))))))))
    (bd_one (sd_for PassesOwn.never rfl (id_seq (ed_bin o_add (oe_val (ed_bin o_add (oe_var (pv 7)) (oe_var (pv 2)))) (oe_val (ed_lc (own := [("look", 16)]) rfl sc_law.nd (id_rg1 (by rfl) T.z_range (os_cons (oe_val (ed_int)) (os_nil))) (blk_of (by rfl)) (fun _ _ _ _ _ => gv_name sc_law.nd rfl (by first | exact Or.inl rfl | exact Or.inr rfl) (by simp)) (fun _ _ _ _ _ => pts_yes) (fun _ _ _ _ _ => ecS c__law_bent gd (hr.mono (by decide)) (by rfl) (pv 1) (as_cons (ed_var (pv 11)) (as_cons (ed_var (pv 2)) (as_nil)))))))) (gd_name sc_law.nd rfl (by first | exact Or.inl rfl | exact Or.inr rfl)) (bd_cons (sd_set (i := 9) sc_law.nd rfl (by first | exact Or.inl rfl | exact Or.inr rfl) (ed_callB (c_repr gd (hr.mono (by decide)) sys) (by rfl) T.z_repr bo_repr (os_cons (oe_var (pv 8)) (os_nil))))
      (bd_one (sd_if (PW.pt (wd_or (td_cmp (l_ne (u64 hr)) (oe_val (ed_callB (c_repr gd (hr.mono (by decide)) sys) (by rfl) T.z_repr bo_repr (os_cons (oe_val (ec c_judge_late gd (hr.mono (by decide)) (by rfl) (as_cons (ed_var (pv 11)) (as_cons (ed_var (pv 8)) (as_nil))))) (os_nil)))) (oe_val (ed_callB (c_repr gd (hr.mono (by decide)) sys) (by rfl) T.z_repr bo_repr (os_cons (oe_val (ec c__law_late_fault gd (hr.mono (by decide)) (by rfl) (as_cons (ed_var (pv 11)) (as_cons (ed_var (pv 8)) (as_nil))))) (os_nil)))) (nomark _)) (wd_or1 (td_cmp (l_ne (u64 hr)) (oe_val (ed_callB (c_repr gd (hr.mono (by decide)) sys) (by rfl) T.z_repr bo_repr (os_cons (oe_var (pv 8)) (os_nil)))) (oe_var (pv 9)) (nomark _))))) (bd_one (sd_ret (ed_bl))) (bd_nil))))))))))))))))))))
  (bd_one (sd_ret (ed_cmp o_is (oe_val (ec c_judge_late gd (hr.mono (by decide)) (by rfl) (as_cons (ed_tup (as_cons (ed_tup (as_nil)) (as_cons (ed_tup (as_nil)) (as_nil)))) (as_cons (ed_tup (as_cons (ed_tup (as_nil)) (as_cons (ed_tup (as_nil)) (as_nil)))) (as_nil))))) (oe_val (ed_non)) (nomark _))))))) hl
end
end Law
end EL
set_option exponentiation.threshold 20000
namespace EL
open PySem PySem.Spec PyProof.Rows L2 R
namespace Law
/-! ### fractions: the program's, the law's -/
theorem gcd_lt {p q : Int} {B : Nat} (h : q ≠ 0) (hb : q.natAbs < B) : 0 < ((Nat.gcd p.natAbs q.natAbs : Nat) : Int) ∧ ((Nat.gcd p.natAbs q.natAbs : Nat) : Int).natAbs < B := by
  have g : 0 < Nat.gcd p.natAbs q.natAbs := Nat.gcd_pos_of_pos_right _ (by omega)
  have l : Nat.gcd p.natAbs q.natAbs ≤ q.natAbs := Nat.gcd_le_right _ (by omega)
  omega
theorem v_fraction_of {p q : Int} (h : q ≠ 0) (hb : q.natAbs < 2 ^ 9000) : p_fraction_of [.int p, .int q] = some (.val (fr (Rat.divInt p q))) := by
  obtain ⟨g1, g2⟩ := gcd_lt (p := p) h hb
  have hd := div_big g1 g2
  by_cases hq : 0 < q
  · rw [fr_pos hq]
    simp [p_fraction_of, b_fraction_of, hq, hd]
  · rw [fr_neg (by omega)]
    simp [p_fraction_of, b_fraction_of, hq, hd]
def meas (a b : Nat) : Nat := if b = 0 then 0 else (a * b).log2 + (if a < b then 1 else 0) + 1
theorem meas_dec {a b : Nat} (hb : 0 < b) : meas b (a % b) < meas a b := by
  unfold meas
  rw [if_neg (show b ≠ 0 by omega)]
  split
  · omega
  · rename_i hr
    have hlt := Nat.mod_lt a hb
    rw [if_neg (show ¬ b < a % b by omega)]
    by_cases h : a < b
    · rw [if_pos h, Nat.mod_eq_of_lt h, Nat.mul_comm]; omega
    · rw [if_neg h]
      have e := Nat.div_add_mod a b
      have q1 : 1 ≤ a / b := (Nat.one_le_div_iff hb).mpr (by omega)
      have : b * 1 ≤ b * (a / b) := Nat.mul_le_mul_left b q1
      have h2 : 2 * (b * (a % b)) ≤ a * b := by
        have : 2 * (a % b) ≤ a := by omega
        have := Nat.mul_le_mul_right b this
        rw [Nat.mul_comm b (a % b), ← Nat.mul_assoc]; exact this
      have p0 : b * (a % b) ≠ 0 := Nat.mul_ne_zero (by omega) hr
      have l1 : (2 * (b * (a % b))).log2 = (b * (a % b)).log2 + 1 := Nat.log2_two_mul p0
      have l2 : (2 * (b * (a % b))).log2 ≤ (a * b).log2 := by
        rw [Nat.le_log2 (by omega)]
        exact Nat.le_trans (Nat.log2_self_le (by omega)) h2
      omega
theorem euclid {T : FT} {B : FS} {n : EE → Nat} {P : EE → Prop} (E : Nat → Nat → EE) (hT : ∀ a b, T (E a b) = some (decide (0 < b), E a b)) (hB : ∀ a b, 0 < b → B (E a b) = some (.nx, E b (a % b)))
    (a b : Nat) (hn : meas a b < n (E a b)) (hP : P (E (Nat.gcd a b) 0)) : NX (sWh T B n) (E a b) P := by
  refine nx_wh (fun m e => ∃ x y, e = E x y ∧ Nat.gcd x y = Nat.gcd a b ∧ meas x y ≤ m) (meas a b) hn ⟨a, b, rfl, rfl, Nat.le_refl _⟩ ?_
  rintro m e ⟨x, y, rfl, h1, h2⟩
  by_cases hy : 0 < y
  · right
    have d := meas_dec (a := x) hy
    obtain ⟨m', rfl⟩ : ∃ m', m = m' + 1 := ⟨m - 1, by omega⟩
    refine ⟨E x y, m', by rw [hT, decide_eq_true hy], rfl, nx_of (hB x y hy) ⟨y, x % y, rfl, ?_, by omega⟩⟩
    rw [← h1, Nat.gcd_comm y, ← Nat.gcd_rec, Nat.gcd_comm]
  · left
    have : y = 0 := by omega
    subst this
    refine ⟨_, by rw [hT, decide_eq_false hy], ?_⟩
    rw [Nat.gcd_zero_right] at h1
    rw [h1]; exact hP
theorem meas_le {a b : Nat} (ha : a < 2 ^ 9000) (hb : b < 2 ^ 9000) : meas a b < 20000 := by
  unfold meas
  split
  · omega
  · have : (a * b).log2 < 18000 ∨ a * b = 0 := by
      by_cases z : a * b = 0
      · exact .inr z
      · left
        rw [Nat.log2_lt z]
        have : a * b < 2 ^ 9000 * 2 ^ 9000 := Nat.mul_lt_mul'' ha hb
        rwa [← Nat.pow_add] at this
    have h0 : Nat.log2 0 = 0 := by decide
    rcases this with h | h
    · split <;> omega
    · rw [h, h0]; split <;> omega
theorem v__law_fraction {p q : Int} (h : q ≠ 0) (hp : p.natAbs < 2 ^ 9000) (hb : q.natAbs < 2 ^ 9000) : p__law_fraction [.int p, .int q] = some (.val (fr (Rat.divInt p q))) := by
  obtain ⟨g1, g2⟩ := gcd_lt (p := p) h hb
  have hd := div_big g1 g2
  refine runD_of rfl (rt_cons (nx_of (e' := ⟨[some (.val (.int p)), some (.val (.int q)), some (.val (.int (p.natAbs : Int))), some (.val (.int (q.natAbs : Int))), none], S0⟩) ?_ (rt_cons ?_)))
  · have e1 : (if p < 0 then -p else p) = (p.natAbs : Int) := by split <;> omega
    have e2 : (if q < 0 then -q else q) = (q.natAbs : Int) := by split <;> omega
    simp [e1, e2]
  · refine euclid (fun a b => ⟨[some (.val (.int p)), some (.val (.int q)), some (.val (.int (a : Int))), some (.val (.int (b : Int))), none], S0⟩) ?_ ?_ p.natAbs q.natAbs (meas_le hp hb) ?_
    · intro a b; simp
    · intro a b hb
      have hm : ((a : Int)).fmod (b : Int) = ((a % b : Nat) : Int) := by rw [Int.fmod_eq_emod_of_nonneg _ (by omega)]; exact (Int.natCast_emod _ _).symm
      have hne : ((b : Int)) ≠ 0 := by omega
      have hne' : b ≠ 0 := by omega
      simp [hne', hm]
    · generalize hg : Nat.gcd p.natAbs q.natAbs = g at *
      have ms1 : ∀ x : Int, mulW 1 x = true := fun x => mul_small (by decide)
      have ms2 : ∀ x : Int, mulW (-1) x = true := fun x => mul_small (by decide)
      by_cases hq : 0 < q
      · rw [fr_pos hq, hg]
        refine ⟨⟨[some (.val (.int p)), some (.val (.int q)), some (.val (.int (g : Int))), some (.val (.int 0)), some (.val (.int 1))], S0⟩, ?_⟩
        simp [hq, ms1, hd]
      · rw [fr_neg (by omega), hg]
        refine ⟨⟨[some (.val (.int p)), some (.val (.int q)), some (.val (.int (g : Int))), some (.val (.int 0)), some (.val (.int (-1)))], S0⟩, ?_⟩
        simp [hq, ms2, hd]
theorem big_big : BIG * BIG < 2 ^ 8999 := by unfold BIG; rw [← Nat.pow_add]; exact Nat.pow_lt_pow_right (by decide) (by decide)
theorem big_two : BIG * BIG + BIG * BIG < 2 ^ 9000 := by
  have := big_big
  have e : (2 : Nat) ^ 9000 = 2 ^ 8999 * 2 := rfl
  omega
/-! ### sums, products -/
section
variable {a b : Rat} (ha : Ok a) (hb : Ok b)
include ha hb
theorem ok_mul : mulW a.num (b.den : Int) = true ∧ mulW b.num (a.den : Int) = true ∧ mulW (a.den : Int) (b.den : Int) = true ∧ mulW a.num b.num = true ∧ mulW (a.den : Int) b.num = true := by
  have h1 := ha.d; have h2 := hb.d
  have e1 : ((a.den : Int)).natAbs < BIG := by omega
  have e2 : ((b.den : Int)).natAbs < BIG := by omega
  exact ⟨mul_ok ha.n e2, mul_ok hb.n e1, mul_ok e1 e2, mul_ok ha.n hb.n, mul_ok e1 hb.n⟩
theorem ok_den : (a.den : Int) * (b.den : Int) ≠ 0 ∧ ((a.den : Int) * (b.den : Int)).natAbs < 2 ^ 9000 := by
  have h1 := ha.d; have h2 := hb.d
  have p1 := a.den_pos; have p2 := b.den_pos
  have e : ((a.den : Int) * (b.den : Int)).natAbs = a.den * b.den := by rw [Int.natAbs_mul]; rfl
  have : a.den * b.den ≤ BIG * BIG := Nat.mul_le_mul (by omega) (by omega)
  have q := big_two
  have p3 : 0 < a.den * b.den := Nat.mul_pos p1 p2
  refine ⟨fun z => ?_, by omega⟩
  rw [z] at e
  simp at e; omega
theorem v_fraction_sum : p_fraction_sum [fr a, fr b] = some (.val (fr (a + b))) := by
  obtain ⟨m1, m2, m3, m4, m5⟩ := ok_mul ha hb
  obtain ⟨d1, d2⟩ := ok_den ha hb
  have := v_fraction_of (p := a.num * (b.den : Int) + b.num * (a.den : Int)) d1 d2
  rw [fsum] at this
  unfold fr at this ⊢
  simp [p_fraction_sum, b_fraction_sum, m1, m2, m3, this]
theorem v_fraction_less : p_fraction_less [fr a, fr b] = some (.val (fr (a - b))) := by
  obtain ⟨m1, m2, m3, m4, m5⟩ := ok_mul ha hb
  obtain ⟨d1, d2⟩ := ok_den ha hb
  have := v_fraction_of (p := a.num * (b.den : Int) - b.num * (a.den : Int)) d1 d2
  rw [fless] at this
  unfold fr at this ⊢
  simp [p_fraction_less, b_fraction_less, m1, m2, m3, this]
theorem v_fraction_times : p_fraction_times [fr a, fr b] = some (.val (fr (a * b))) := by
  obtain ⟨m1, m2, m3, m4, m5⟩ := ok_mul ha hb
  obtain ⟨d1, d2⟩ := ok_den ha hb
  have := v_fraction_of (p := a.num * b.num) d1 d2
  rw [fmul] at this
  unfold fr at this ⊢
  simp [p_fraction_times, b_fraction_times, m4, m3, this]
theorem big_sum : (a.num * (b.den : Int) + b.num * (a.den : Int)).natAbs < 2 ^ 9000 := by
  have h1 := ha.d; have h2 := hb.d; have n1 := ha.n; have n2 := hb.n
  have e1 : (a.num * (b.den : Int)).natAbs ≤ BIG * BIG := by rw [Int.natAbs_mul]; exact Nat.mul_le_mul (by omega) (by omega)
  have e2 : (b.num * (a.den : Int)).natAbs ≤ BIG * BIG := by rw [Int.natAbs_mul]; exact Nat.mul_le_mul (by omega) (by omega)
  exact Nat.lt_of_le_of_lt (Nat.le_trans (Int.natAbs_add_le _ _) (Nat.add_le_add e1 e2)) big_two
theorem big_mul : (a.num * b.num).natAbs < 2 ^ 9000 := by
  have n1 := ha.n; have n2 := hb.n
  have p := big_two
  rw [Int.natAbs_mul]
  have := Nat.mul_le_mul (Nat.le_of_lt n1) (Nat.le_of_lt n2)
  omega
theorem v__law_plus : p__law_plus [fr a, fr b] = some (.val (fr (a + b))) := by
  obtain ⟨m1, m2, m3, m4, m5⟩ := ok_mul ha hb
  obtain ⟨d1, d2⟩ := ok_den ha hb
  have := v__law_fraction (p := a.num * (b.den : Int) + b.num * (a.den : Int)) d1 (big_sum ha hb) d2
  rw [fsum] at this
  unfold fr at this ⊢
  simp [p__law_plus, b__law_plus, m1, m2, m3, this]
theorem v__law_by : p__law_by [fr a, fr b] = some (.val (fr (a * b))) := by
  obtain ⟨m1, m2, m3, m4, m5⟩ := ok_mul ha hb
  obtain ⟨d1, d2⟩ := ok_den ha hb
  have := v__law_fraction (p := a.num * b.num) d1 (big_mul ha hb) d2
  rw [fmul] at this
  unfold fr at this ⊢
  simp [p__law_by, b__law_by, m4, m3, this]
end

/-! ### n over k -/
theorem chn_le : ∀ (n k : Nat), (ch (n : Int) k).natAbs ≤ 2 ^ n
  | 0, 0 => by rw [ch_zero]; decide
  | 0, k + 1 => by
    have : ch ((0 : Nat) : Int) (k + 1) = 0 := by
      unfold ch
      have e : cr ((((0 : Nat) : Int)) : Rat) (k + 1) = 0 := cr_zero k
      rw [e]; rfl
    rw [this]; simp
  | n + 1, 0 => by rw [ch_zero]; exact Nat.one_le_two_pow
  | n + 1, k + 1 => by
    have h := ch_pascal (n : Int) k
    have c : (((n + 1 : Nat) : Nat) : Int) = (n : Int) + 1 := rfl
    rw [c, h]
    have a := chn_le n (k + 1)
    have b := chn_le n k
    have := Int.natAbs_add_le (ch (n : Int) (k + 1)) (ch (n : Int) k)
    rw [Nat.pow_succ]; omega
theorem ch_bound {n : Int} (hn : 0 ≤ n ∧ n ≤ 500) {k : Nat} : (ch n k).natAbs ≤ 2 ^ 500 := by
  obtain ⟨m, rfl⟩ : ∃ m : Nat, n = (m : Int) := ⟨n.toNat, by omega⟩
  exact Nat.le_trans (chn_le m k) (Nat.pow_le_pow_right (by decide) (by omega))
theorem p500 : (2 : Nat) ^ 500 < BIG := Nat.pow_lt_pow_right (by decide) (by decide)
theorem nb_big : 1000 < BIG := Nat.lt_of_lt_of_le (by decide : 1000 < 2 ^ 10) (Nat.pow_le_pow_right (by decide) (by decide))
theorem div_small {j : Int} (h : 0 < j) (k : j ≤ 1000000) : divW j = true := hid (.inl ⟨by omega, by omega⟩)
def fac : Nat → Nat
  | 0 => 1
  | k + 1 => (k + 1) * fac k
theorem fac_pos : ∀ k, 0 < fac k
  | 0 => by decide
  | k + 1 => Nat.mul_pos (by omega) (fac_pos k)
theorem fac_le : ∀ k, k ≤ 400 → fac k ≤ 512 ^ k
  | 0, _ => by decide
  | k + 1, h => by
    have ih := fac_le k (by omega)
    have : fac (k + 1) ≤ 512 * 512 ^ k := Nat.mul_le_mul (by omega) ih
    rw [Nat.pow_succ]; omega
theorem fac_small {k : Nat} (h : k ≤ 400) : fac k ≤ 2 ^ 3600 := by
  refine Nat.le_trans (fac_le k h) ?_
  rw [show (512 : Nat) = 2 ^ 9 from rfl, ← Nat.pow_mul]
  exact Nat.pow_le_pow_right (by decide) (by omega)
theorem v__law_choose {n : Int} {k : Nat} (hn : 0 ≤ n ∧ n ≤ 500) (hk : k ≤ 400) : p__law_choose [.int n, .int (k : Int)] = some (.val (.int (ch n k))) := by
  have hw : inW (k : Int) = true := x_inW (by omega) (by omega)
  refine runD_of rfl (rt_cons (nx_of (e' := ⟨[some (.val (.int n)), some (.val (.int (k : Int))), some (.val (.int 1)), some (.val (.int 1)), none], S0⟩) (by simp) (rt_cons (nx_forI (fun i e => ∃ x3, e = ⟨[some (.val (.int n)), some (.val (.int (k : Int))), some (.val (.int (ch n i * (fac i : Int)))), some (.val (.int (fac i : Int))), x3], S0⟩) (ds := rgL 0 k) (e1 := ⟨[some (.val (.int n)), some (.val (.int (k : Int))), some (.val (.int 1)), some (.val (.int 1)), none], S0⟩) (by simp [hw]) ⟨none, rfl⟩ ?_ ?_))))
  · rintro i e d hd ⟨x3, rfl⟩
    obtain ⟨rfl, hi⟩ := rgL_get hd
    refine ⟨_, rfl, nx_of (e' := ⟨[some (.val (.int n)), some (.val (.int (k : Int))), some (.val (.int (ch n (i + 1) * (fac (i + 1) : Int)))), some (.val (.int (fac (i + 1) : Int))), some (.val (.int (i : Int)))], S0⟩) ?_ ⟨_, rfl⟩⟩
    have b1 := ch_bound hn (k := i)
    have b3 := nb_big
    have f1 := fac_small (k := i) (by omega)
    have b4 : (ch n i * (fac i : Int)).natAbs < 2 ^ 8000 := by
      rw [Int.natAbs_mul]
      have : (ch n i).natAbs * ((fac i : Int)).natAbs ≤ 2 ^ 500 * 2 ^ 3600 := Nat.mul_le_mul b1 (by omega)
      refine Nat.lt_of_le_of_lt this ?_
      rw [← Nat.pow_add]
      exact Nat.pow_lt_pow_right (by decide) (by decide)
    have b5 : BIG ≤ 2 ^ 8000 := Nat.pow_le_pow_right (by decide) (by decide)
    have m : mulW (ch n i * (fac i : Int)) (n - (i : Int)) = true := mul_big b4 (by omega)
    have m2 : mulW (fac i : Int) ((i : Int) + 1) = true := mul_small' (by omega)
    have e1 : ch n i * (fac i : Int) * (n - (i : Int)) = ch n (i + 1) * (fac (i + 1) : Int) := by
      have := ch_step n i
      have f : ((fac (i + 1) : Nat) : Int) = ((i : Int) + 1) * (fac i : Int) := by show (((i + 1) * fac i : Nat) : Int) = _; rw [Int.natCast_mul]; rfl
      rw [f]; grind
    have e2 : (fac i : Int) * ((i : Int) + 1) = (fac (i + 1) : Int) := by
      show _ = (((i + 1) * fac i : Nat) : Int); rw [Int.natCast_mul, Int.mul_comm]; rfl
    simp [m, m2, e1, e2]
  · rintro e ⟨x3, rfl⟩
    rw [rgL_len]
    have fp := fac_pos k
    have f1 := fac_small hk
    have dv : divW (fac k : Int) = true := div_big (by omega) (by
      have : (2 : Nat) ^ 3600 < 2 ^ 9000 := Nat.pow_lt_pow_right (by decide) (by decide)
      exact Nat.lt_of_le_of_lt (by omega) this)
    have e1 : (ch n k * (fac k : Int)).fdiv (fac k : Int) = ch n k := by
      rw [Int.fdiv_eq_ediv_of_nonneg _ (by omega), Int.mul_ediv_cancel _ (by omega)]
    refine ⟨⟨[some (.val (.int n)), some (.val (.int (k : Int))), some (.val (.int (ch n k * (fac k : Int)))), some (.val (.int (fac k : Int))), x3], S0⟩, ?_⟩
    simp [dv, e1]

/-! ### equality of fractions -/
theorem eqv2 (a b c d : Int) : PyData.eqv (.tuple [.int a, .int b]) (.tuple [.int c, .int d]) = (a == c && b == d) := by
  simp [PyData.eqv, PyData.eqvAll]
theorem sh2 (a b : Int) : SeqAt.shaped (.tuple [.int a, .int b]) = true := by
  unfold SeqAt.shaped
  simp [PyData.canLay0, PyData.canLayAll0, PyData.depth, PyData.depthAll]
theorem qEq2 (a b c d : Int) : qEq (.tuple [.int a, .int b]) (.tuple [.int c, .int d]) = some (.val (.bool (a == c && b == d))) := by
  show gEq _ _ = _
  unfold gEq
  rw [sh2, sh2, eqv2]; rfl
theorem eqF (a b : Rat) : (a.num == b.num && ((a.den : Nat) : Int) == ((b.den : Nat) : Int)) = decide (a = b) := by
  rw [Bool.eq_iff_iff]
  simp only [Bool.and_eq_true, beq_iff_eq, decide_eq_true_eq]
  constructor
  · rintro ⟨h1, h2⟩; exact Rat.ext h1 (by omega)
  · rintro rfl; exact ⟨rfl, rfl⟩
theorem qEqF (a b : Rat) : qEq (fr a) (fr b) = some (.val (.bool (decide (a = b)))) := by
  unfold fr; rw [qEq2, eqF]
theorem qEqF0 (a : Rat) : qEq (fr a) (.tuple [.int 0, .int 1]) = some (.val (.bool (decide (a = 0)))) := qEqF a 0
theorem zero_k : (PyData.tuple (k_ZERO.map PyData.int)) = .tuple [.int 0, .int 1] := rfl
theorem co_get {l : List Rat} {k : Nat} (h : k < l.length) : l[k]? = some (co l k) := by
  unfold co
  simp [List.getD, List.getElem?_eq_getElem h]
theorem get_co {l : List Rat} {k : Nat} {x : Rat} (h : l[k]? = some x) : x = co l k ∧ k < l.length := by
  have hk := ltOf h
  rw [co_get hk] at h
  exact ⟨(Option.some.inj h).symm, hk⟩
theorem ix_rowL {l : List Rat} {k : Nat} (h : k < l.length) : gIx (.list (l.map fr)) (.int (k : Int)) = some (.val (fr (co l k))) := ix_natL (by rw [List.getElem?_map, co_get h]; rfl)
theorem ix_rowT {l : List Rat} {k : Nat} (h : k < l.length) : gIx (.tuple (l.map fr)) (.int (k : Int)) = some (.val (fr (co l k))) := ix_natT (by rw [List.getElem?_map, co_get h]; rfl)
theorem cut_take' (ds : List D) (c : Nat) : cutD ds none (some (c : Int)) = ds.take c := by
  unfold cutD
  rw [HT.sIx_none, HT.sIx_nat]
  simp
/-! ### noughts behind left out -/
theorem trim_done {l : List Rat} {m : Nat} (h : m = 0 ∨ co l (m - 1) ≠ 0) : trimN l m = m := by
  cases m with
  | zero => rfl
  | succ m =>
    unfold trimN
    rcases h with h | h
    · omega
    · rw [if_neg (by simpa using h)]
theorem trim_go {l : List Rat} {m : Nat} (h : co l m = 0) : trimN l (m + 1) = trimN l m := by
  rw [trimN, if_pos h]
section
variable {l : List Rat} (hl : l.length ≤ 1000)
include hl
theorem v_row_of {d0 : D} (hd0 : d0 = .list (l.map fr) ∨ d0 = .tuple (l.map fr)) : p_row_of [d0] = some (.val (rw' (trim l))) := by
  have hlen : gLenD [d0] = some (.val (.int (l.length : Int))) := by rcases hd0 with rfl | rfl <;> simp
  have hix : ∀ {k : Nat}, k < l.length → gIx d0 (.int (k : Int)) = some (.val (fr (co l k))) := by
    intro k hk
    rcases hd0 with rfl | rfl
    · exact ix_rowL hk
    · exact ix_rowT hk
  refine runD_of rfl (rt_cons (nx_of (e' := ⟨[some (.val d0), some (.val (.int (l.length : Int)))], S0⟩) (by simp [hlen]) (rt_cons (nx_wh (fun m e => e = ⟨[some (.val d0), some (.val (.int (m : Int)))], S0⟩ ∧ m ≤ l.length ∧ trimN l m = trimN l l.length) l.length (by show l.length < 20000; omega) ⟨rfl, Nat.le_refl _, rfl⟩ ?_))))
  rintro m e ⟨rfl, h1, h2⟩
  by_cases hm : m = 0 ∨ co l (m - 1) ≠ 0
  · left
    refine ⟨⟨[some (.val d0), some (.val (.int (m : Int)))], S0⟩, ?_, ?_⟩
    · by_cases h0 : m = 0
      · subst h0; simp
      · obtain ⟨k, rfl⟩ : ∃ k, m = k + 1 := ⟨m - 1, by omega⟩
        have hk := hix (k := k) (by omega)
        have hc : co l k ≠ 0 := by rcases hm with h | h; omega; simpa using h
        simp [hk, zero_k, qEqF0, hc, show (k : Int) + 1 - 1 = k by omega]
        try omega
    · refine ⟨⟨[some (.val d0), some (.val (.int (m : Int)))], S0⟩, ?_⟩
      have ht : rw' (trim l) = .tuple ((l.map fr).take m) := by
        unfold rw' trim
        rw [List.map_take, ← h2, trim_done hm]
      rcases hd0 with rfl | rfl
      · simp [cut_take', ht]
      · simp [cut_take', ht]
  · right
    have hm : m ≠ 0 ∧ co l (m - 1) = 0 := ⟨fun z => hm (.inl z), Classical.byContradiction fun z => hm (.inr z)⟩
    obtain ⟨k, rfl⟩ : ∃ k, m = k + 1 := ⟨m - 1, by omega⟩
    have hk := hix (k := k) (by omega)
    have hc : co l k = 0 := by simpa using hm.2
    refine ⟨⟨[some (.val d0), some (.val (.int ((k + 1 : Nat) : Int)))], S0⟩, k, ?_, rfl, nx_of (e' := ⟨[some (.val d0), some (.val (.int (k : Int)))], S0⟩) ?_ ⟨rfl, by omega, by rw [← trim_go hc]; exact h2⟩⟩
    · simp [hk, zero_k, qEqF0, hc, show (k : Int) + 1 - 1 = k by omega]
      try omega
    · simp [show (k : Int) + 1 - 1 = k by omega]
theorem v__law_trimmed : p__law_trimmed [.list (l.map fr)] = some (.val (rw' (trim l))) := by
  refine runD_of rfl (rt_cons (nx_of (e' := ⟨[some (.val (.list (l.map fr))), some (.ol ((l.map fr).take l.length))], S0⟩) (by rw [List.take_of_length_le (by simp)]; simp) (rt_cons (nx_wh (fun m e => e = ⟨[some (.val (.list (l.map fr))), some (.ol ((l.map fr).take m))], S0⟩ ∧ m ≤ l.length ∧ trimN l m = trimN l l.length) l.length (by show l.length < 20000; omega) ⟨rfl, Nat.le_refl _, rfl⟩ ?_))))
  rintro m e ⟨rfl, h1, h2⟩
  by_cases h0 : m = 0
  · left
    subst h0
    refine ⟨⟨[some (.val (.list (l.map fr))), some (.ol [])], S0⟩, ?_, ⟨[some (.val (.list (l.map fr))), some (.ol [])], S0⟩, ?_⟩
    · have : lNe (.list []) (.list []) = some (.val (.bool false)) := by
        show gNe (.list []) (.list []) = _
        unfold gNe
        rw [if_pos (by decide +kernel)]; rfl
      simp [this]
    · have ht : rw' (trim l) = .tuple [] := by
        unfold rw' trim
        rw [← h2]; rfl
      simp [ht]
  · obtain ⟨k, rfl⟩ : ∃ k, m = k + 1 := ⟨m - 1, by omega⟩
    have hk1 : k < l.length := by omega
    have hlen : ((l.map fr).take (k + 1)).length = k + 1 := by simp; omega
    obtain ⟨ds, hds⟩ : ∃ ds, ds = (l.map fr).take (k + 1) := ⟨_, rfl⟩
    have hne : lNe (.list ds) (.list []) = some (.val (.bool true)) := by
      cases ds with
      | nil => rw [← hds] at hlen; simp at hlen
      | cons a r => rfl
    have hlast : gIx (.list ds) (.int (-1)) = some (.val (fr (co l k))) := by
      show (L2.atI ds (-1)).bind (fun d => some (Rs.val d)) = _
      have : L2.atI ds (-1) = some (fr (co l k)) := by
        unfold L2.atI L2.ixN
        rw [hds, hlen, if_neg (by omega), if_pos (by omega)]
        have : ((-1 : Int) + ((k + 1 : Nat) : Int)).toNat = k := by omega
        rw [Option.bind_some, this, List.getElem?_take, if_pos (by omega), List.getElem?_map, co_get hk1]; rfl
      rw [this]; rfl
    rw [← hds] at hlen ⊢
    by_cases hc : co l k = 0
    · right
      refine ⟨⟨[some (.val (.list (l.map fr))), some (.ol ds)], S0⟩, k, ?_, rfl, nx_of (e' := ⟨[some (.val (.list (l.map fr))), some (.ol ((l.map fr).take k))], S0⟩) ?_ ⟨rfl, by omega, by rw [← trim_go hc]; exact h2⟩⟩
      · simp [hne, hlast, qEqF0, hc]
      · have hd : ds.dropLast = (l.map fr).take k := by rw [List.dropLast_eq_take, hlen, hds, List.take_take]; congr 1; omega
        have hl' : ds[ds.length - 1]? = some (fr (co l k)) := by
          rw [hlen, hds, List.getElem?_take, if_pos (by omega), List.getElem?_map, show k + 1 - 1 = k by omega, co_get hk1]; rfl
        simp only [x_sDrop, x_mPop, x_lstAt, List.getElem?_cons_succ, List.getElem?_cons_zero, Option.bind_some, hl', hd, x_put, List.set]
    · left
      refine ⟨⟨[some (.val (.list (l.map fr))), some (.ol ds)], S0⟩, ?_, ⟨[some (.val (.list (l.map fr))), some (.ol ds)], S0⟩, ?_⟩
      · simp [hne, hlast, qEqF0, hc]
      · have ht : rw' (trim l) = .tuple ds := by
          unfold rw' trim
          rw [List.map_take, ← h2, trim_done (.inr (by simpa using hc)), hds]
        simp [ht]
end

/-! ### rows that are not too great -/
def MB : Nat := 2 ^ 1600
structure Rok (D : Nat) (l : List Rat) : Prop where
  d0 : 0 < D
  d1 : D < BIG
  n : l.length ≤ 400
  c : ∀ x ∈ l, Sz D MB x
theorem szS {D M : Nat} {f : Nat → Rat} : ∀ {i : Nat}, (∀ k, k < i → Sz D M (f k)) → Sz D (i * M) (S i f)
  | 0, _ => by rw [Nat.zero_mul]; exact Sz.zero
  | i + 1, h => by
    have := (szS (i := i) fun k hk => h k (by omega)).add (h i (by omega))
    rw [Nat.succ_mul]; exact this
def TB : Nat := 2 ^ 2100
theorem big20 : 500 * TB < BIG := by
  have : 500 * TB ≤ 2 ^ 9 * 2 ^ 2100 := Nat.mul_le_mul (by decide) (Nat.le_refl _)
  refine Nat.lt_of_le_of_lt this ?_
  rw [← Nat.pow_add]
  exact Nat.pow_lt_pow_right (by decide) (by decide)
section
variable {D : Nat} {l : List Rat} (R0 : Rok D l) {n : Int} (hn : 0 ≤ n ∧ n ≤ 500)
include R0 hn
theorem sz_term {k : Nat} (hk : k < l.length) : Sz D TB (cr (n : Rat) k * co l k) := by
  have h1 := R0.c _ (co_mem hk)
  have h2 := ch_bound hn (k := k)
  have := Sz.intMul (ch n k) h1
  rw [ch_cr] at this
  refine this.mono ?_
  have : (ch n k).natAbs * MB ≤ 2 ^ 500 * 2 ^ 1600 := Nat.mul_le_mul h2 (Nat.le_refl _)
  rw [← Nat.pow_add] at this
  exact this
theorem sz_part {i : Nat} (hi : i ≤ l.length) : Sz D (400 * TB) (S i fun k => cr (n : Rat) k * co l k) := by
  have := szS (f := fun k => cr (n : Rat) k * co l k) (i := i) fun k hk => sz_term R0 hn (by omega)
  exact this.mono (Nat.mul_le_mul_right _ (by have := R0.n; omega))
theorem sz_ev : Sz D (400 * TB) (ev l (n : Rat)) := sz_part R0 hn (Nat.le_refl _)
theorem ok_part {i : Nat} (hi : i ≤ l.length) : Ok (S i fun k => cr (n : Rat) k * co l k) := (sz_part R0 hn hi).ok R0.d0 R0.d1 (by have := big20; omega)
theorem ok_term {k : Nat} (hk : k < l.length) : Ok (cr (n : Rat) k * co l k) := (sz_term R0 hn hk).ok R0.d0 R0.d1 (by have := big20; omega)
theorem ok_co {k : Nat} (hk : k < l.length) : Ok (co l k) := (R0.c _ (co_mem hk)).ok R0.d0 R0.d1 (Nat.pow_lt_pow_right (by decide) (by decide))
theorem ok_ch {k : Nat} : Ok ((ch n k : Int) : Rat) := by
  have h2 := ch_bound hn (k := k)
  exact (Sz.int (ch n k)).ok (by decide) (by have := nb_big; omega) (Nat.lt_of_le_of_lt h2 p500)
theorem v_row_at : p_row_at [rw' l, .int n] = some (.val (fr (ev l (n : Rat)))) := by
  have hz : seqD (rw' l) = some (l.map fr) := rfl
  refine runD_of rfl (rt_cons (nx_of (e' := ⟨[some (.val (rw' l)), some (.val (.int n)), some (.val (fr 0)), some (.val (.int 1)), none, none], S0⟩) (by simp [zero_k, fr_zero]) (rt_cons (nx_forI (fun i e => ∃ x4 x5, e = ⟨[some (.val (rw' l)), some (.val (.int n)), some (.val (fr (S i fun k => cr (n : Rat) k * co l k))), some (.val (.int (ch n i))), x4, x5], S0⟩) (ds := enumD 0 (l.map fr)) (e1 := ⟨[some (.val (rw' l)), some (.val (.int n)), some (.val (fr 0)), some (.val (.int 1)), none, none], S0⟩) (by simp [hz]) ⟨none, none, rfl⟩ ?_ ?_))))
  · rintro i e d hd ⟨x4, x5, rfl⟩
    obtain ⟨x, hx, rfl⟩ := enum_at hd
    obtain ⟨q, hq, rfl⟩ := get_map hx
    obtain ⟨rfl, hi⟩ := get_co hq
    have hi16 : i ≤ 400 := by have := R0.n; omega
    have b1 := ch_bound hn (k := i)
    have b2 := p500
    have b3 := nb_big
    have m : mulW (ch n i) (n - (i : Int)) = true := mul_ok (by omega) (by omega)
    have dv : divW ((i : Int) + 1) = true := div_small (by omega) (by omega)
    have t := v_fraction_times (ok_ch R0 hn (k := i)) (ok_co R0 hn hi)
    rw [fr_int, ch_cr] at t
    have s := v_fraction_sum (ok_part R0 hn (i := i) (by omega)) (ok_term R0 hn hi)
    refine ⟨_, rfl, nx_of (e' := ⟨[some (.val (rw' l)), some (.val (.int n)), some (.val (fr (S (i + 1) fun k => cr (n : Rat) k * co l k))), some (.val (.int (ch n (i + 1)))), some (.val (.int (i : Int))), some (.val (fr (co l i)))], S0⟩) ?_ ⟨_, _, rfl⟩⟩
    have e1 : S (i + 1) (fun k => cr (n : Rat) k * co l k) = S i (fun k => cr (n : Rat) k * co l k) + cr (n : Rat) i * co l i := rfl
    rw [e1]
    by_cases hc : ch n i = 0
    · have z : cr (n : Rat) i = 0 := by rw [← ch_cr, hc]; rfl
      have e2 : S i (fun k => cr (n : Rat) k * co l k) + cr (n : Rat) i * co l i = S i (fun k => cr (n : Rat) k * co l k) := by rw [z]; grind
      rw [e2]
      have hch : ch n (i + 1) = 0 := by
        have := ch_div n i
        rw [hc] at this
        simpa using this.symm
      rw [hc] at m
      rw [hc, hch]
      simp [m, dv]
    · simp [hc, t, s, m, dv, ch_div]
  · rintro e ⟨x4, x5, rfl⟩
    rw [enumD_len, List.length_map]
    exact ⟨_, rfl⟩
theorem v__law_row_at : p__law_row_at [rw' l, .int n] = some (.val (fr (ev l (n : Rat)))) := by
  have hz : seqD (rw' l) = some (l.map fr) := rfl
  refine runD_of rfl (rt_cons (nx_of (e' := ⟨[some (.val (rw' l)), some (.val (.int n)), some (.val (fr 0)), none, none], S0⟩) (by simp [fr_zero]) (rt_cons (nx_forI (fun i e => ∃ x4 x5, e = ⟨[some (.val (rw' l)), some (.val (.int n)), some (.val (fr (S i fun k => cr (n : Rat) k * co l k))), x4, x5], S0⟩) (ds := enumD 0 (l.map fr)) (e1 := ⟨[some (.val (rw' l)), some (.val (.int n)), some (.val (fr 0)), none, none], S0⟩) (by simp [hz]) ⟨none, none, rfl⟩ ?_ ?_))))
  · rintro i e d hd ⟨x4, x5, rfl⟩
    obtain ⟨x, hx, rfl⟩ := enum_at hd
    obtain ⟨q, hq, rfl⟩ := get_map hx
    obtain ⟨rfl, hi⟩ := get_co hq
    have hi16 : i ≤ 400 := by have := R0.n; omega
    have c := v__law_choose hn hi16
    have t := v__law_by (ok_ch R0 hn (k := i)) (ok_co R0 hn hi)
    rw [fr_int, ch_cr] at t
    have s := v__law_plus (ok_part R0 hn (i := i) (by omega)) (ok_term R0 hn hi)
    refine ⟨_, rfl, nx_of (e' := ⟨[some (.val (rw' l)), some (.val (.int n)), some (.val (fr (S (i + 1) fun k => cr (n : Rat) k * co l k))), some (.val (.int (i : Int))), some (.val (fr (co l i)))], S0⟩) ?_ ⟨_, _, rfl⟩⟩
    have e1 : S (i + 1) (fun k => cr (n : Rat) k * co l k) = S i (fun k => cr (n : Rat) k * co l k) + cr (n : Rat) i * co l i := rfl
    rw [e1]
    simp [c, t, s]
  · rintro e ⟨x4, x5, rfl⟩
    rw [enumD_len, List.length_map]
    exact ⟨_, rfl⟩
end

end Law
end EL
set_option exponentiation.threshold 20000
namespace EL
open PySem PySem.Spec PyProof.Rows L2 R
namespace Law
theorem sh_row (l : List Rat) : SeqAt.shaped (rw' l) = true := by
  have h1 : ∀ l : List Rat, PyData.canLayAll0 (l.map fr) = true := by
    intro l
    induction l with
    | nil => simp [PyData.canLayAll0]
    | cons a l ih => rw [List.map_cons]; simp only [PyData.canLayAll0, ih]; simp [fr, PyData.canLay0, PyData.canLayAll0]
  have h2 : ∀ l : List Rat, PyData.depthAll (l.map fr) ≤ 1 := by
    intro l
    induction l with
    | nil => simp [PyData.depthAll]
    | cons a l ih => rw [List.map_cons]; simp only [PyData.depthAll]; have : PyData.depth (fr a) = 1 := by simp [fr, PyData.depth, PyData.depthAll]
                     omega
  unfold SeqAt.shaped rw'
  have e1 : PyData.canLay0 (.tuple (l.map fr)) = true := by simpa [PyData.canLay0] using h1 l
  have e2 : PyData.depth (.tuple (l.map fr)) ≤ 2 := by have := h2 l; simp [PyData.depth]; omega
  rw [e1, Bool.true_and]
  exact decide_eq_true (by omega)
theorem eqvF (a b : Rat) : PyData.eqv (fr a) (fr b) = decide (a = b) := by unfold fr; rw [eqv2, eqF]
theorem eqv_rows : ∀ a b : List Rat, PyData.eqvAll (a.map fr) (b.map fr) = decide (a = b)
  | [], [] => by simp [PyData.eqvAll]
  | [], _ :: _ => by simp [PyData.eqvAll]
  | _ :: _, [] => by simp [PyData.eqvAll]
  | x :: a, y :: b => by
    simp only [List.map_cons, PyData.eqvAll, eqvF, eqv_rows a b]
    rw [Bool.eq_iff_iff]; simp
theorem qEq_row (a b : List Rat) : qEq (rw' a) (rw' b) = some (.val (.bool (decide (a = b)))) := by
  show gEq (rw' a) (rw' b) = _
  unfold gEq
  rw [sh_row, sh_row]
  have : PyData.eqv (rw' a) (rw' b) = decide (a = b) := by unfold rw'; simp only [PyData.eqv]; exact eqv_rows a b
  rw [this]; rfl
theorem lNe_row (a b : List Rat) : lNe (rw' a) (rw' b) = some (.val (.bool (!decide (a = b)))) := by
  show gNe (rw' a) (rw' b) = _
  unfold gNe
  rw [sh_row, sh_row]
  have : PyData.eqv (rw' a) (rw' b) = decide (a = b) := by unfold rw'; simp only [PyData.eqv]; exact eqv_rows a b
  rw [this]; rfl
theorem lNe_row0 (a : List Rat) : lNe (rw' a) (.tuple []) = some (.val (.bool (!decide (a = [])))) := lNe_row a []
theorem qEq_row0 (a : List Rat) : qEq (rw' a) (.tuple []) = some (.val (.bool (decide (a = [])))) := qEq_row a []
/-! ### sums up to n -/

def tab (L : Nat) (G : Nat → Rat) : List D := (List.range L).map fun t => fr (G t)
theorem tab_len (L : Nat) (G : Nat → Rat) : (tab L G).length = L := by simp [tab]
theorem tab_get {L k : Nat} (h : k < L) (G : Nat → Rat) : (tab L G)[k]? = some (fr (G k)) := by unfold tab; simp [List.getElem?_range, h]
theorem tab_congr {L : Nat} {G G' : Nat → Rat} (h : ∀ t, t < L → G t = G' t) : tab L G = tab L G' := by
  unfold tab
  refine List.map_congr_left fun t ht => ?_
  rw [h t (by simpa using ht)]
theorem tab_set {L k : Nat} (h : k < L) (G : Nat → Rat) (x : Rat) : (tab L G).set k (fr x) = tab L fun t => if t = k then x else G t := by
  refine List.ext_getElem? fun t => ?_
  rw [List.getElem?_set, tab_len]
  by_cases e : k = t
  · subst e
    rw [if_pos rfl, if_pos h, tab_get h]; simp
  · rw [if_neg e]
    by_cases ht : t < L
    · rw [tab_get ht, tab_get ht, if_neg (fun z => e z.symm)]
    · rw [List.getElem?_eq_none (by rw [tab_len]; omega), List.getElem?_eq_none (by rw [tab_len]; omega)]

/-! ### judges -/
def intB : D → Bool
  | .int _ => true
  | _ => false
def fracB : D → Bool
  | .tuple [.int p, .int q] => decide (0 < q) && (Nat.gcd p.natAbs q.natAbs == 1)
  | _ => false
theorem frac_pq (p q : Int) : fracB (.tuple [.int p, .int q]) = (decide (0 < q) && (Nat.gcd p.natAbs q.natAbs == 1)) := rfl
def small2 : D → Bool
  | .tuple [.int p, .int q] => decide (p.natAbs < 2 ^ 9000) && decide (q.natAbs < 2 ^ 9000)
  | .tuple ds => decide (ds.length ≤ 2000)
  | _ => true
theorem small2_len {ds : List D} (h : small2 (.tuple ds) = true) : ds.length ≤ 2000 := by
  unfold small2 at h
  split at h
  · rename_i e; injection e with e; subst e; simp
  · rename_i e; injection e with e; subst e; exact of_decide_eq_true h
  · rename_i e; exact absurd rfl (e _)
theorem v_is_integer (d : D) : p_is_integer [d] = some (.val (.bool (intB d))) := by
  cases d <;> simp [p_is_integer, b_is_integer, instT, instB, intB]
theorem v__law_is_int (d : D) : p__law_is_int [d] = some (.val (.bool (intB d))) := by
  cases d <;> simp [p__law_is_int, b__law_is_int, instT, instB, intB]
theorem lNe_nilL (l : List D) : lNe (.list l) (.list []) = some (.val (.bool (!l.isEmpty))) := by
  cases l with
  | nil =>
    show gNe (.list []) (.list []) = _
    unfold gNe
    rw [if_pos (by decide +kernel)]; rfl
  | cons a l => rfl
theorem two_ints {ds : List D} (h : ds.length = 2) (k : ds.all intB = true) : ∃ p q, ds = [.int p, .int q] := by
  match ds, h with
  | [a, b], _ =>
    have k : intB a = true ∧ intB b = true := by simpa using k
    cases a <;> first | (exfalso; exact Bool.false_ne_true k.1) | skip
    cases b <;> first | (exfalso; exact Bool.false_ne_true k.2) | skip
    exact ⟨_, _, rfl⟩
theorem frac_no {ds : List D} (h : ¬ (ds.length = 2 ∧ ds.all intB = true)) : fracB (.tuple ds) = false := by
  unfold fracB
  split
  · rename_i e
    injection e with e
    subst e
    exact absurd ⟨rfl, rfl⟩ h
  · rfl
theorem all_ints {ds : List D} {e : EE} {i : Nat} {φ : List D → Option Rs} {I : FA} (hφ : ∀ d, φ [d] = some (.val (.bool (intB d)))) (hl : ds.length ≤ 2000) (hI : I e = some (ds, e)) (hi : e.r[i]? = some none) :
    VE (eB gAll (oCons (oVal (eComp [i] I (gN i) tYs (eCall φ (aCons (fVar i) (aNil))))) (oNil))) e (.val (.bool (ds.all intB))) :=
  all_look intB hI hi (by omega) fun d hd => vCall (asC (vVar (by
    have : i < e.r.length := ltOf hi
    simp [EE.put, this])) asN) (hφ d)
theorem flt_look {ds : List D} {e : EE} {i : Nat} {φ : List D → Option Rs} {I : FA} {f : D → Bool} (hφ : ∀ d ∈ ds, φ [d] = some (.val (.bool (f d)))) (hl : ds.length ≤ 2000) (hI : I e = some (ds, e)) (hi : e.r[i]? = some none) :
    VE (eComp [i] I (gN i) (tNot (tOf (eCall φ (aCons (fVar i) (aNil))))) (fVar i)) e (.fl (ds.filter fun d => !f d)) := by
  have l : i < e.r.length := ltOf hi
  have := comp_look (I := I) (T := tNot (tOf (eCall φ (aCons (fVar i) (aNil))))) (F := fVar i) (e := e) (ds := ds) (i := i) (fun d => !f d) id hI hi (by omega) (fun d hd => tNot' (tOf' (vCall (asC (r := .val d) (vVar (by simp [EE.put, l])) asN) (hφ d hd)))) (fun d hd _ => ⟨.val d, vVar (by simp [EE.put, l]), rfl⟩)
  rw [List.map_id] at this
  exact this
theorem flt_nil {ds : List D} (f : D → Bool) : (ds.filter fun d => !f d).isEmpty = ds.all f := by
  induction ds with
  | nil => rfl
  | cons d ds ih =>
    rw [List.filter_cons, List.all_cons]
    cases f d with
    | true => simpa using ih
    | false => rfl
theorem gcd_one {p q : Int} (h : 0 < q) : decide (Rat.divInt p q = Rat.divInt p q ∧ (Nat.gcd p.natAbs q.natAbs = 1)) = (Nat.gcd p.natAbs q.natAbs == 1) := by
  rw [Bool.eq_iff_iff]; simp
theorem frac_eq {p q : Int} (h : 0 < q) : qEq (fr (Rat.divInt p q)) (.tuple [.int p, .int q]) = some (.val (.bool (Nat.gcd p.natAbs q.natAbs == 1))) := by
  rw [fr_pos h, qEq2]
  congr 3
  rw [Bool.eq_iff_iff]
  simp only [Bool.and_eq_true, beq_iff_eq]
  generalize hg : Nat.gcd p.natAbs q.natAbs = g
  have g0 : 0 < g := by rw [← hg]; exact Nat.gcd_pos_of_pos_right _ (by omega)
  constructor
  · rintro ⟨_, h2⟩
    rw [Int.fdiv_eq_ediv_of_nonneg _ (by omega)] at h2
    have e := Int.ediv_mul_cancel (a := q) (b := (g : Int)) (by
      have : g ∣ q.natAbs := by rw [← hg]; exact Nat.gcd_dvd_right _ _
      exact Int.ofNat_dvd_left.mpr this)
    rw [h2] at e
    have : (g : Int) = 1 := by
      have : q * (g : Int) = q * 1 := by rw [e, Int.mul_one]
      exact Int.eq_of_mul_eq_mul_left (by omega) this
    omega
  · rintro rfl
    simp
theorem v_is_fraction {d : D} (hs : small2 d = true) : p_is_fraction [d] = some (.val (.bool (fracB d))) := by
  by_cases ht : ∃ ds, d = .tuple ds
  · obtain ⟨ds, rfl⟩ := ht
    have hl := small2_len hs
    have c := all_ints (e := ⟨[some (.val (.tuple ds)), none], S0⟩) (i := 1) (I := iSeq (fVar 0)) (ds := ds) v_is_integer hl (by simp) rfl
    by_cases hk : ds.length = 2 ∧ ds.all intB = true
    · obtain ⟨p, q, rfl⟩ := two_ints hk.1 hk.2
      have c : VE (eB gAll (oCons (oVal (eComp [1] (iSeq (fVar 0)) (gN 1) tYs (eCall p_is_integer (aCons (fVar 1) (aNil))))) (oNil))) ⟨[some (.val (.tuple [.int p, .int q])), none], S0⟩ (.val (.bool true)) := c
      refine runD_of rfl (rIfF (c := false) ?_ rfl ?_)
      · exact tOrF (tNot' (tOf' (vInst (oVar' rfl rfl) rfl))) rfl (tOrF (tOf' (vBin (oVal' (vB (osC (oVar' rfl rfl) osN) (gLen_tup _))) (oVal' vC) (lNe_int _ _))) rfl (tNot' (tOf' c)))
      · by_cases hq : 0 < q
        · refine rRet (vAndT (vBin (oVal' (vBin (oVar' rfl rfl) (oVal' vC) (ix_T1 _ _ _))) (oVal' vC) (gGt_int _ _)) (decide_eq_true hq) ?_)
          have e : fracB (.tuple [.int p, .int q]) = (((Nat.gcd p.natAbs q.natAbs : Nat) : Int) == 1) := by
            rw [frac_pq, decide_eq_true hq, Bool.true_and, Bool.eq_iff_iff]; simp; omega
          rw [e]
          exact vBin (oVal' (vB (osC (oVal' (vBin (oVar' rfl rfl) (oVal' vC) (ix_T0 _ _))) (osC (oVal' (vBin (oVar' rfl rfl) (oVal' vC) (ix_T1 _ _ _))) osN)) (d_gcd _ _))) (oVal' vC) (qEq_int _ _)
        · have e : fracB (.tuple [.int p, .int q]) = false := by rw [frac_pq, decide_eq_false hq]; rfl
          rw [e]
          exact rRet (vAndF (vBin (oVal' (vBin (oVar' rfl rfl) (oVal' vC) (ix_T1 _ _ _))) (oVal' vC) (gGt_int _ _)) (decide_eq_false hq))
    · rw [frac_no hk]
      refine runD_of rfl (rIfT (c := true) ?_ rfl (rRet vC))
      refine tOrF (tNot' (tOf' (vInst (oVar' rfl rfl) rfl))) rfl ?_
      by_cases h2 : ds.length = 2
      · refine tOrF (tOf' (vBin (oVal' (vB (osC (oVar' rfl rfl) osN) (gLen_tup _))) (oVal' vC) (lNe_int _ _))) (by simp; omega) ?_
        have := tNot' (tOf' c)
        rw [show ds.all intB = false by have : ¬ ds.all intB = true := fun z => hk ⟨h2, z⟩
                                        simpa using this] at this
        exact this
      · exact tOrT (tOf' (vBin (oVal' (vB (osC (oVar' rfl rfl) osN) (gLen_tup _))) (oVal' vC) (lNe_int _ _))) (by simp; omega)
  · have e : fracB d = false := by cases d <;> first | rfl | exact absurd ⟨_, rfl⟩ ht
    rw [e]
    have hn : instB "tuple" (tyD d) = false := by cases d <;> first | rfl | exact absurd ⟨_, rfl⟩ ht
    exact runD_of rfl (rIfT (tOrT (tNot' (tOf' (vInst (oVar' rfl rfl) rfl))) (by rw [hn]; rfl)) rfl (rRet vC))
theorem v__law_is_fraction {d : D} (hs : small2 d = true) : p__law_is_fraction [d] = some (.val (.bool (fracB d))) := by
  by_cases ht : ∃ ds, d = .tuple ds
  · obtain ⟨ds, rfl⟩ := ht
    have hl := small2_len hs
    have c := flt_look (e := ⟨[some (.val (.tuple ds)), none], S0⟩) (i := 1) (I := iSeq (fVar 0)) (ds := ds) (f := intB) (fun d _ => v__law_is_int d) hl (by simp) rfl
    have c2 : TT (tOf (eBin lNe (oVal (eComp [1] (iSeq (fVar 0)) (gN 1) (tNot (tOf (eCall p__law_is_int (aCons (fVar 1) (aNil))))) (fVar 1))) (oVal (eLst (aNil))))) ⟨[some (.val (.tuple ds)), none], S0⟩ (!ds.all intB) := by
      rw [← flt_nil intB]
      exact tOf' (vBin (oVal' c) (oVal' (vLst asN (by simp))) (lNe_nilL _))
    by_cases hk : ds.length = 2 ∧ ds.all intB = true
    · obtain ⟨p, q, rfl⟩ := two_ints hk.1 hk.2
      refine runD_of rfl (rIfF (c := false) ?_ rfl ?_)
      · exact tOrF (tNot' (tOf' (vInst (oVar' rfl rfl) rfl))) rfl (tOrF (tOf' (vBin (oVal' (vB (osC (oVar' rfl rfl) osN) (gLen_tup _))) (oVal' vC) (lNe_int _ _))) rfl c2)
      · by_cases hq : 0 < q
        · refine rRet (vAndT (vBin (oVal' (vBin (oVar' rfl rfl) (oVal' vC) (ix_T1 _ _ _))) (oVal' vC) (gGt_int _ _)) (decide_eq_true hq) ?_)
          have e : fracB (.tuple [.int p, .int q]) = (Nat.gcd p.natAbs q.natAbs == 1) := by
            rw [frac_pq, decide_eq_true hq, Bool.true_and]
          rw [e]
          have hb : p.natAbs < 2 ^ 9000 ∧ q.natAbs < 2 ^ 9000 := by
            have hs : (decide (p.natAbs < 2 ^ 9000) && decide (q.natAbs < 2 ^ 9000)) = true := hs
            rw [Bool.and_eq_true] at hs
            exact ⟨of_decide_eq_true hs.1, of_decide_eq_true hs.2⟩
          have vf := v__law_fraction (p := p) (q := q) (by omega) hb.1 hb.2
          exact vBin (oVal' (vCall (asC (vBin (oVar' rfl rfl) (oVal' vC) (ix_T0 _ _)) (asC (vBin (oVar' rfl rfl) (oVal' vC) (ix_T1 _ _ _)) asN)) vf)) (oVar' rfl rfl) (frac_eq hq)
        · have e : fracB (.tuple [.int p, .int q]) = false := by rw [frac_pq, decide_eq_false hq]; rfl
          rw [e]
          exact rRet (vAndF (vBin (oVal' (vBin (oVar' rfl rfl) (oVal' vC) (ix_T1 _ _ _))) (oVal' vC) (gGt_int _ _)) (decide_eq_false hq))
    · rw [frac_no hk]
      refine runD_of rfl (rIfT (c := true) ?_ rfl (rRet vC))
      refine tOrF (tNot' (tOf' (vInst (oVar' rfl rfl) rfl))) rfl ?_
      by_cases h2 : ds.length = 2
      · refine tOrF (tOf' (vBin (oVal' (vB (osC (oVar' rfl rfl) osN) (gLen_tup _))) (oVal' vC) (lNe_int _ _))) (by simp; omega) ?_
        rw [show ds.all intB = false by have : ¬ ds.all intB = true := fun z => hk ⟨h2, z⟩
                                        simpa using this] at c2
        exact c2
      · exact tOrT (tOf' (vBin (oVal' (vB (osC (oVar' rfl rfl) osN) (gLen_tup _))) (oVal' vC) (lNe_int _ _))) (by simp; omega)
  · have e : fracB d = false := by cases d <;> first | rfl | exact absurd ⟨_, rfl⟩ ht
    rw [e]
    have hn : instB "tuple" (tyD d) = false := by cases d <;> first | rfl | exact absurd ⟨_, rfl⟩ ht
    exact runD_of rfl (rIfT (tOrT (tNot' (tOf' (vInst (oVar' rfl rfl) rfl))) (by rw [hn]; rfl)) rfl (rRet vC))

theorem frac_is {d : D} (h : fracB d = true) : ∃ q, d = fr q := by
  unfold fracB at h
  split at h
  · rename_i p q
    rw [Bool.and_eq_true] at h
    have h1 := of_decide_eq_true h.1
    have h2 : Nat.gcd p.natAbs q.natAbs = 1 := by simpa using h.2
    refine ⟨Rat.divInt p q, ?_⟩
    rw [fr_pos h1, h2]; simp
  · cases h
theorem fr_frac (q : Rat) : fracB (fr q) = true := by
  have h := q.reduced
  have d := q.den_pos
  show (decide (0 < (q.den : Int)) && (Nat.gcd q.num.natAbs ((q.den : Int)).natAbs == 1)) = true
  rw [decide_eq_true (by omega), Bool.true_and]
  have : Nat.gcd q.num.natAbs q.den = 1 := h
  simpa using this
theorem fracs_are : ∀ {ds : List D}, ds.all fracB = true → ∃ l : List Rat, ds = l.map fr
  | [], _ => ⟨[], rfl⟩
  | d :: ds, h => by
    rw [List.all_cons, Bool.and_eq_true] at h
    obtain ⟨q, rfl⟩ := frac_is h.1
    obtain ⟨l, rfl⟩ := fracs_are h.2
    exact ⟨q :: l, rfl⟩
theorem fr_all (l : List Rat) : (l.map fr).all fracB = true := by
  rw [List.all_map, List.all_eq_true]
  intro q _; exact fr_frac q
def goodB : D → Bool
  | .tuple ds => decide (ds.length ≤ 2000) && ds.all small2
  | _ => true
instance (l : List Rat) : Decidable (Tr l) := by unfold Tr; exact inferInstance
def unfr : D → Rat
  | .tuple [.int p, .int q] => Rat.divInt p q
  | _ => 0
theorem unfr_fr (q : Rat) : unfr (fr q) = q := Rat.num_divInt_den q
theorem unfr_map (l : List Rat) : (l.map fr).map unfr = l := by
  rw [List.map_map]
  exact (List.map_congr_left fun q _ => unfr_fr q).trans (List.map_id l)
def rowB : D → Bool
  | .tuple ds => ds.all fracB && decide (Tr (ds.map unfr))
  | _ => false
theorem rowB_row (l : List Rat) : rowB (rw' l) = decide (Tr l) := by
  show ((l.map fr).all fracB && decide (Tr ((l.map fr).map unfr))) = _
  rw [fr_all, unfr_map]; rfl
theorem ix_last {l : List Rat} (h : l ≠ []) : gIx (.tuple (l.map fr)) (.int (-1)) = some (.val (fr (co l (l.length - 1)))) := by
  have h0 : 0 < l.length := List.length_pos_iff.mpr h
  show (L2.atI (l.map fr) (-1)).bind (fun d => some (Rs.val d)) = _
  have : L2.atI (l.map fr) (-1) = some (fr (co l (l.length - 1))) := by
    unfold L2.atI L2.ixN
    rw [List.length_map, if_neg (by omega), if_pos (by omega)]
    have : ((-1 : Int) + (l.length : Int)).toNat = l.length - 1 := by omega
    rw [Option.bind_some, this, List.getElem?_map, co_get (by omega)]; rfl
  rw [this]; rfl
theorem lNeF0 (a : Rat) : lNe (fr a) (.tuple [.int 0, .int 1]) = some (.val (.bool (!decide (a = 0)))) := by
  show gNe (fr a) (fr 0) = _
  unfold gNe fr
  rw [sh2, sh2, eqv2, eqF]; rfl
theorem row_tail (l : List Rat) (e : EE) (h : e.r[0]? = some (some (.val (.tuple (l.map fr))))) {F : FO} (hF : OO F e (.tuple [.int 0, .int 1])) :
    VE (eOr (eBin qEq (oVar 0) (oVal (eTup (aNil)))) (eBin lNe (oVal (eBin gIx (oVar 0) (oVal (eUn gNeg (oVal (fC (.int 1))))))) F)) e (.val (.bool (decide (Tr l)))) := by
  have h1 : VE (eBin qEq (oVar 0) (oVal (eTup (aNil)))) e (.val (.bool (decide (l = [])))) := vBin (oVar' h rfl) (oVal' (vTup asN (by simp))) (qEq_row0 l)
  by_cases hl : l = []
  · have e1 : decide (Tr l) = true := decide_eq_true (.inl hl)
    rw [e1]
    rw [decide_eq_true hl] at h1
    have := vOr (G := eBin lNe (oVal (eBin gIx (oVar 0) (oVal (eUn gNeg (oVal (fC (.int 1))))))) F) (b := true) h1 (fun z => by cases z)
    exact this
  · rw [decide_eq_false hl] at h1
    have := vOr (G := eBin lNe (oVal (eBin gIx (oVar 0) (oVal (eUn gNeg (oVal (fC (.int 1))))))) F) (b := !decide (co l (l.length - 1) = 0)) h1 (fun _ => vBin (oVal' (vBin (oVar' h rfl) (oVal' (vUn (x := .int 1) (oVal' vC) (d_neg 1))) (ix_last hl))) hF (lNeF0 _))
    have e1 : decide (Tr l) = !decide (co l (l.length - 1) = 0) := by
      rw [Bool.eq_iff_iff]
      simp [Tr, hl]
    rw [e1]
    exact this
theorem v_is_row {d : D} (hs : goodB d = true) : p_is_row [d] = some (.val (.bool (rowB d))) := by
  by_cases ht : ∃ ds, d = .tuple ds
  · obtain ⟨ds, rfl⟩ := ht
    have hs : (decide (ds.length ≤ 2000) && ds.all small2) = true := hs
    rw [Bool.and_eq_true] at hs
    have hl := of_decide_eq_true hs.1
    have hg := List.all_eq_true.mp hs.2
    have c : VE (eB gAll (oCons (oVal (eComp [1] (iSeq (fVar 0)) (gN 1) tYs (eCall p_is_fraction (aCons (fVar 1) (aNil))))) (oNil))) ⟨[some (.val (.tuple ds)), none], S0⟩ (.val (.bool (ds.all fracB))) :=
      all_look fracB (by simp) rfl (by omega) fun d hd => vCall (asC (vVar (by simp [EE.put])) asN) (v_is_fraction (hg d hd))
    have t2 := tNot' (tOf' c)
    by_cases hf : ds.all fracB = true
    · obtain ⟨l, rfl⟩ := fracs_are hf
      rw [hf] at t2
      have e1 : rowB (.tuple (l.map fr)) = decide (Tr l) := rowB_row l
      rw [e1]
      exact runD_of rfl (rIfF (c := false) (tOrF (tNot' (tOf' (vInst (oVar' rfl rfl) rfl))) rfl t2) rfl (rRet (row_tail l _ rfl (oVal' vC))))
    · have hf : ds.all fracB = false := by simpa using hf
      rw [hf] at t2
      have e1 : rowB (.tuple ds) = false := by show (ds.all fracB && _) = false; rw [hf]; rfl
      rw [e1]
      exact runD_of rfl (rIfT (c := true) (tOrF (tNot' (tOf' (vInst (oVar' rfl rfl) rfl))) rfl t2) rfl (rRet vC))
  · have e : rowB d = false := by cases d <;> first | rfl | exact absurd ⟨_, rfl⟩ ht
    rw [e]
    have hn : instB "tuple" (tyD d) = false := by cases d <;> first | rfl | exact absurd ⟨_, rfl⟩ ht
    exact runD_of rfl (rIfT (tOrT (tNot' (tOf' (vInst (oVar' rfl rfl) rfl))) (by rw [hn]; rfl)) rfl (rRet vC))
theorem v__law_is_row {d : D} (hs : goodB d = true) : p__law_is_row [d] = some (.val (.bool (rowB d))) := by
  by_cases ht : ∃ ds, d = .tuple ds
  · obtain ⟨ds, rfl⟩ := ht
    have hs : (decide (ds.length ≤ 2000) && ds.all small2) = true := hs
    rw [Bool.and_eq_true] at hs
    have hl := of_decide_eq_true hs.1
    have hg := List.all_eq_true.mp hs.2
    have c := flt_look (e := ⟨[some (.val (.tuple ds)), none], S0⟩) (i := 1) (I := iSeq (fVar 0)) (ds := ds) (f := fracB) (fun d hd => v__law_is_fraction (hg d hd)) hl (by simp) rfl
    have t2 : TT (tOf (eBin lNe (oVal (eComp [1] (iSeq (fVar 0)) (gN 1) (tNot (tOf (eCall p__law_is_fraction (aCons (fVar 1) (aNil))))) (fVar 1))) (oVal (eLst (aNil))))) ⟨[some (.val (.tuple ds)), none], S0⟩ (!ds.all fracB) := by
      rw [← flt_nil fracB]
      exact tOf' (vBin (oVal' c) (oVal' (vLst asN (by simp))) (lNe_nilL _))
    by_cases hf : ds.all fracB = true
    · obtain ⟨l, rfl⟩ := fracs_are hf
      rw [hf] at t2
      have e1 : rowB (.tuple (l.map fr)) = decide (Tr l) := rowB_row l
      rw [e1]
      exact runD_of rfl (rIfF (c := false) (tOrF (tNot' (tOf' (vInst (oVar' rfl rfl) rfl))) rfl t2) rfl (rRet (row_tail l _ rfl (oVal' (vTup (asC vC (asC vC asN)) (show (2 : Nat) ≤ 16777216 by decide))))))
    · have hf : ds.all fracB = false := by simpa using hf
      rw [hf] at t2
      have e1 : rowB (.tuple ds) = false := by show (ds.all fracB && _) = false; rw [hf]; rfl
      rw [e1]
      exact runD_of rfl (rIfT (c := true) (tOrF (tNot' (tOf' (vInst (oVar' rfl rfl) rfl))) rfl t2) rfl (rRet vC))
  · have e : rowB d = false := by cases d <;> first | rfl | exact absurd ⟨_, rfl⟩ ht
    rw [e]
    have hn : instB "tuple" (tyD d) = false := by cases d <;> first | rfl | exact absurd ⟨_, rfl⟩ ht
    exact runD_of rfl (rIfT (tOrT (tNot' (tOf' (vInst (oVar' rfl rfl) rfl))) (by rw [hn]; rfl)) rfl (rRet vC))
theorem repr3 (a b c : Bool) : gRepr [.list [.bool a, .bool b, .bool c]] = some (.val (.str (PyData.list [.bool a, .bool b, .bool c]).shown)) := repr_ok (Fn.ok (fn_of (by cases a <;> cases b <;> cases c <;> decide +kernel)))
theorem lNe_str_same (z : Str) : lNe (.str z) (.str z) = some (.val (.bool false)) := by rw [lNe_str]; simp

theorem flat_fr (q : Rat) : flatT (fr q) = true := by simp [fr, flatT, flatTs]
theorem flat_row (l : List Rat) : flatT (rw' l) = true := by
  have : ∀ l : List Rat, flatTs (l.map fr) = true := by
    intro l
    induction l with
    | nil => simp [flatTs]
    | cons a l ih => rw [List.map_cons]; simp only [flatTs, flat_fr, ih, Bool.and_self]
  simp [rw', flatT, this]
theorem tab_map (l : List Rat) : l.map fr = tab l.length (co l) := by
  refine List.ext_getElem? fun t => ?_
  by_cases h : t < l.length
  · rw [tab_get h, List.getElem?_map, co_get h]; rfl
  · rw [List.getElem?_eq_none (by simp; omega), List.getElem?_eq_none (by rw [tab_len]; omega)]
theorem tab_rows (L : Nat) (G : Nat → Rat) : tab L G = ((List.range L).map G).map fr := by unfold tab; rw [List.map_map]; rfl
theorem tab_at {L i : Nat} {G : Nat → Rat} {d : D} (h : (tab L G)[i]? = some d) : d = fr (G i) ∧ i < L := by
  have hi : i < L := by have := ltOf h; rwa [tab_len] at this
  rw [tab_get hi] at h
  exact ⟨(Option.some.inj h).symm, hi⟩
theorem cut_tail (L : Nat) (G : Nat → Rat) : cutD (tab (L + 1) G) (some 1) none = tab L fun t => G (t + 1) := by
  unfold cutD
  rw [HT.sIx_none, show (some (1 : Int)) = some ((1 : Nat) : Int) from rfl, HT.sIx_nat, tab_len]
  rw [List.take_of_length_le (by rw [List.length_drop, tab_len]; omega)]
  refine List.ext_getElem? fun t => ?_
  rw [List.getElem?_drop, show min 1 (L + 1) = 1 by omega]
  by_cases h : t < L
  · rw [tab_get h, tab_get (show 1 + t < L + 1 by omega), Nat.add_comm]
  · rw [List.getElem?_eq_none (by rw [tab_len]; omega), List.getElem?_eq_none (by rw [tab_len]; omega)]
section
variable {D M : Nat} {l : List Rat} (d0 : 0 < D) (d1 : D < BIG) (ln : l.length ≤ 9) (lc : ∀ k, Sz D M (co l k)) (hM : 1024 * M < BIG)
include d0 d1 ln lc hM
theorem ok_df {k j : Nat} (hk : k ≤ 9) : Ok (df (co l) k j) := by
  have := df_sz lc k j
  refine this.ok d0 d1 (Nat.lt_of_le_of_lt ?_ hM)
  exact Nat.mul_le_mul_right _ (Nat.pow_le_pow_right (by decide) (by omega : k ≤ 10))
theorem v_row_through {d : EL.D} (hd : d = .list (l.map fr) ∨ d = .tuple (l.map fr)) : p_row_through [d] = some (.val (rw' (trim (thr l)))) := by
  have hg : gList [d] = some (.fl (l.map fr)) := by rcases hd with rfl | rfl <;> rfl
  rw [tab_map] at hg
  have t0 : tab l.length (co l) = tab (l.length - 0) (df (co l) 0) := rfl
  refine runD_of rfl (rt_cons (nx_of (e' := ⟨[some (.val d), some (.ol []), some (.ol (tab l.length (co l))), none, none], S0⟩) (by simp [hg]) ?_))
  refine rt_cons (nx_wh (fun m e => m ≤ l.length ∧ e = ⟨[some (.val d), some (.ol (tab (l.length - m) fun k => df (co l) k 0)), some (.ol (tab m (df (co l) (l.length - m)))), none, none], S0⟩) l.length (by show l.length < 20000; omega) ⟨Nat.le_refl _, by rw [Nat.sub_self]; rfl⟩ ?_)
  rintro m e ⟨hm, rfl⟩
  cases m with
  | zero =>
    left
    have n0 := lNe_nilL []
    refine ⟨⟨[some (.val d), some (.ol (tab l.length fun k => df (co l) k 0)), some (.ol []), none, none], S0⟩, ?_, ?_⟩
    · have : tab 0 (df (co l) (l.length - 0)) = [] := rfl
      rw [this]
      simp [n0]
    · have ro := v_row_of (l := thr l) (by rw [thr_len]; omega) (.inl rfl)
      have e1 : (thr l).map fr = tab l.length fun k => df (co l) k 0 := by unfold thr tab; rw [List.map_map]; rfl
      rw [e1] at ro
      have e0 : tab 0 (df (co l) (l.length - 0)) = [] := rfl
      refine ⟨⟨[some (.val d), some (.val (.list (tab l.length fun k => df (co l) k 0))), some (.ol []), none, none], S0⟩, ?_⟩
      simp [ro]
  | succ m =>
    right
    obtain ⟨k, hk⟩ : ∃ k, k = l.length - (m + 1) := ⟨_, rfl⟩
    rw [← hk]
    have hk' : l.length - m = k + 1 := by omega
    have n0 := lNe_nilL (tab (m + 1) (df (co l) k))
    have hne : (tab (m + 1) (df (co l) k)).isEmpty = false := by
      have := tab_len (m + 1) (df (co l) k)
      cases h : tab (m + 1) (df (co l) k) with
      | nil => rw [h] at this; simp at this
      | cons a r => rfl
    rw [hne] at n0
    have ix : gIx (.list (tab (m + 1) (df (co l) k))) (.int 0) = some (.val (fr (df (co l) k 0))) := ix_natL (n := 0) (tab_get (by omega) _)
    refine ⟨⟨[some (.val d), some (.ol (tab k fun k => df (co l) k 0)), some (.ol (tab (m + 1) (df (co l) k))), none, none], S0⟩, m, by simp [n0], rfl, ?_⟩
    have ap : tab k (fun k => df (co l) k 0) ++ [fr (df (co l) k 0)] = tab (k + 1) fun k => df (co l) k 0 := by unfold tab; rw [List.range_succ, List.map_append]; rfl
    have hs : (tab k fun k => df (co l) k 0).length < 16777216 := by rw [tab_len]; omega
    refine nx_cons (nx_of (e' := ⟨[some (.val d), some (.ol (tab (k + 1) fun k => df (co l) k 0)), some (.ol (tab (m + 1) (df (co l) k))), none, none], S0⟩) (by simp [ix, hs, ap]) ?_)
    have c := comp_ix (vs := [3, 4]) (I := iZipD (aCons (fVar 2) (aCons (eSl (oVar 2) (pIn (fC (.int 1))) (pNo)) (aNil)))) (g := gT 2 (gsCons (gN 3) (gsCons (gN 4) (gsNil)))) (F := eCall p_fraction_less (aCons (fVar 4) (aCons (fVar 3) (aNil))))
      (e := ⟨[some (.val d), some (.ol (tab (k + 1) fun k => df (co l) k 0)), some (.ol (tab (m + 1) (df (co l) k))), none, none], S0⟩) (e1 := ⟨[some (.val d), some (.ol (tab (k + 1) fun k => df (co l) k 0)), some (.val (.list (tab (m + 1) (df (co l) k)))), none, none], S0⟩)
      (tab m (df (co l) (k + 1))) (ds := zipD (tab (m + 1) (df (co l) k)) (tab m fun t => df (co l) k (t + 1))) (by simp [cut_tail]) (by rw [zipD_len, tab_len, tab_len, tab_len]; omega) (by simp) (by simp) (by rw [zipD_len, tab_len, tab_len]; omega) (fun i dd o hd ho => by
        obtain ⟨x, y, hx, hy, rfl⟩ := zipD_get _ _ _ _ hd
        obtain ⟨rfl, _⟩ := tab_at hx
        obtain ⟨rfl, _⟩ := tab_at hy
        obtain ⟨rfl, _⟩ := tab_at ho
        have t := v_fraction_less (ok_df d0 d1 ln lc hM (k := k) (j := i + 1) (by omega)) (ok_df d0 d1 ln lc hM (k := k) (j := i) (by omega))
        have e2 : df (co l) (k + 1) i = df (co l) k (i + 1) - df (co l) k i := rfl
        rw [e2]
        exact ⟨_, ⟨[some (.val d), some (.ol (tab (k + 1) fun k => df (co l) k 0)), some (.val (.list (tab (m + 1) (df (co l) k)))), some (.val (fr (df (co l) k i))), some (.val (fr (df (co l) k (i + 1))))], S0⟩, .val (fr (df (co l) k (i + 1) - df (co l) k i)), rfl, by simp [t], rfl, by simp⟩)
    refine nx_mono (nx_set c (by simp) (P := fun e => e = ⟨[some (.val d), some (.ol (tab (k + 1) fun k => df (co l) k 0)), some (.ol (tab m (df (co l) (k + 1)))), none, none], S0⟩) (by simp)) ?_
    rintro e rfl
    exact ⟨by omega, by rw [hk']⟩
end

theorem mem_co {l : List Rat} {x : Rat} (h : x ∈ l) : ∃ k, k < l.length ∧ x = co l k := by
  obtain ⟨k, hk, e⟩ := List.mem_iff_getElem.mp h
  refine ⟨k, hk, ?_⟩
  unfold co
  simp [List.getD, List.getElem?_eq_getElem hk, e]
theorem v_worths {F : FE} {E : Src → EE} {f : Nat} (hw : ∀ S, (E S).r[12]? = some none) (hE : ∀ S, (E S).S = S) (hE2 : ∀ S S', (⟨(E S).r, S'⟩ : EE) = E S') (S : Src) (Pq : Rat → Prop)
    (hF : ∀ (S : Src) (d : D), ∃ q S', F ((E S).put 12 (some (.val d))) = some (.val (fr q), (E S').put 12 (some (.val d))) ∧ Pq q) :
    ∃ (l : List Rat) (S' : Src), compL [12] (gN 12) tYs F (rgL 0 f) (E S) = some (l.map fr, E S') ∧ l.length = f ∧ ∀ x ∈ l, Pq x := by
  obtain ⟨out, e', q1, q2, q3⟩ := compL_inv (vs := [12]) (g := gN 12) (t := tYs) (F := F) (fun rem acc e => ∃ S l, e = E S ∧ acc = l.map fr ∧ ∀ x ∈ l, Pq x) (rgL 0 f) [] (E S) ⟨S, [], rfl, rfl, by simp⟩ (by
    rintro d rem acc e ⟨S, l, rfl, rfl, hl⟩
    obtain ⟨q, S', h1, h2⟩ := hF S d
    have l12 := ltOf (hw S)
    refine ⟨_, if_pos l12, _, rfl, _, _, h1, S', l ++ [q], ?_, by simp, ?_⟩
    · show ((E S').put 12 _).put 12 none = E S'
      rw [put_put, put_none (hw S')]
    · intro x hx
      rcases List.mem_append.mp hx with h | h
      · exact hl x h
      · rw [List.mem_singleton.mp h]; exact h2)
  obtain ⟨S', l, rfl, ho, hl⟩ := q3
  rw [List.nil_append] at ho
  subst ho
  refine ⟨l, S', q1, ?_, hl⟩
  rw [List.length_map, rgL_len] at q2; exact q2
/-! ### lists compared with nothing -/
theorem sh_list {L : List D} (h : ∀ d ∈ L, PyData.canLay0 d = true ∧ PyData.depth d ≤ 1) : SeqAt.shaped (.list L) = true := by
  have h1 : PyData.canLayAll0 L = true ∧ PyData.depthAll L ≤ 1 := by
    induction L with
    | nil => simp [PyData.canLayAll0, PyData.depthAll]
    | cons d L ih =>
      obtain ⟨a, b⟩ := h d List.mem_cons_self
      obtain ⟨c, e⟩ := ih fun x hx => h x (List.mem_cons_of_mem _ hx)
      simp only [PyData.canLayAll0, PyData.depthAll, a, c]
      exact ⟨rfl, by omega⟩
  unfold SeqAt.shaped
  have e1 : PyData.canLay0 (.list L) = true := by simpa [PyData.canLay0] using h1.1
  have e2 : PyData.depth (.list L) ≤ 2 := by have := h1.2; simp [PyData.depth]; omega
  rw [e1, Bool.true_and]
  exact decide_eq_true (by omega)
theorem lay_int (i : Int) : PyData.canLay0 (.int i) = true ∧ PyData.depth (.int i) ≤ 1 := by simp [PyData.canLay0, PyData.depth]
theorem lay_fr (q : Rat) : PyData.canLay0 (fr q) = true ∧ PyData.depth (fr q) ≤ 1 := by simp [fr, PyData.canLay0, PyData.canLayAll0, PyData.depth, PyData.depthAll]
theorem qEq_none {L : List D} (h : ∀ d ∈ L, PyData.canLay0 d = true ∧ PyData.depth d ≤ 1) : qEq (.list L) (.list []) = some (.val (.bool L.isEmpty)) := by
  show gEq (.list L) (.list []) = _
  unfold gEq
  rw [sh_list h, sh_list (L := []) (by simp), if_pos (by rfl)]
  cases L with
  | nil => rfl
  | cons d L => rfl
theorem lNe_bool (a b : Bool) : lNe (.bool a) (.bool b) = some (.val (.bool (!decide (a = b)))) := by cases a <;> cases b <;> rfl
theorem empty_iff {α : Type} {L : List α} {m : α → Bool} {β : Type} (f : α → β) : ((L.filter m).map f).isEmpty = L.all fun x => !m x := by
  induction L with
  | nil => rfl
  | cons a L ih =>
    rw [List.filter_cons, List.all_cons]
    cases m a with
    | true => rfl
    | false => simpa using ih
theorem all_rg {f : Nat} {m : Int → Bool} {mm : D → Bool} (h : ∀ i, mm (.int i) = m i) : (rgL 0 f).all mm = true ↔ ∀ i : Nat, i < f → m (i : Int) = true := by
  rw [List.all_eq_true]
  constructor
  · intro a i hi
    have := a (.int (i : Int)) (by unfold rgL; exact List.mem_map.mpr ⟨i, by simpa using hi, by simp⟩)
    rwa [h] at this
  · intro a d hd
    obtain ⟨k, hk, rfl⟩ := rgL_mem hd
    rw [h, Int.zero_add]; exact a k hk
theorem all_fr {l : List Rat} {m : Rat → Bool} {mm : D → Bool} (h : ∀ q, mm (fr q) = m q) : (l.map fr).all mm = true ↔ ∀ k, k < l.length → m (co l k) = true := by
  rw [List.all_map, List.all_eq_true]
  constructor
  · intro a k hk
    have := a _ (co_mem hk)
    rw [← h]; exact this
  · intro a q hq
    obtain ⟨k, hk, rfl⟩ := mem_co hq
    show mm (fr (co l k)) = true
    rw [h]; exact a k hk

end Law
end EL
set_option exponentiation.threshold 20000
namespace EL
open PySem PySem.Spec PyProof.Rows L2 R
namespace Law
theorem lNeF (a b : Rat) : lNe (fr a) (fr b) = some (.val (.bool (!decide (a = b)))) := by
  show gNe (fr a) (fr b) = _
  unfold gNe
  have h1 := sh2 a.num (a.den : Int)
  have h2 := sh2 b.num (b.den : Int)
  have h3 := eqvF a b
  unfold fr at h3 ⊢
  rw [h1, h2, h3]; rfl
/-! ### sizes, from what can be shown -/
theorem bits_lt (i : Int) : i.natAbs < 2 ^ (PyData.weight (.int i)) := by
  unfold PyData.weight
  split
  · rename_i h
    have : i = 0 := by simpa using h
    subst this; decide
  · exact Nat.lt_log2_self
theorem bits_pos {i : Int} (h : i ≠ 0) : 1 ≤ PyData.weight (.int i) := by
  unfold PyData.weight
  rw [if_neg (by simpa using h)]; omega
theorem w_fr (q : Rat) : PyData.weight (fr q) = PyData.weight (.int q.num) + PyData.weight (.int (q.den : Int)) + 2 := by
  have : PyData.weight (fr q) = PyData.weightAll [.int q.num, .int (q.den : Int)] := by unfold fr; simp only [PyData.weight]
  rw [this]
  simp only [PyData.weightAll]; omega
theorem dens : ∀ l : List Rat, ∃ D, 0 < D ∧ D ≤ 2 ^ (PyData.weightAll (l.map fr)) ∧ (∀ x ∈ l, Sz D (2 ^ (PyData.weightAll (l.map fr))) x) ∧ 4 * l.length ≤ PyData.weightAll (l.map fr)
  | [] => ⟨1, by decide, by simp [PyData.weightAll], by simp, by simp⟩
  | q :: l => by
    obtain ⟨D, h1, h2, h3, h4⟩ := dens l
    have w : PyData.weightAll ((q :: l).map fr) = PyData.weight (.int q.num) + PyData.weight (.int (q.den : Int)) + 3 + PyData.weightAll (l.map fr) := by
      rw [List.map_cons]; simp only [PyData.weightAll]; rw [w_fr]
    have a := bits_lt q.num
    have b := bits_lt (q.den : Int)
    have dp := q.den_pos
    have bp := bits_pos (i := (q.den : Int)) (by omega)
    rw [w]
    generalize PyData.weight (.int q.num) = A at *
    generalize PyData.weight (.int (q.den : Int)) = B at *
    generalize PyData.weightAll (l.map fr) = C at *
    have eb : ((q.den : Int)).natAbs = q.den := rfl
    rw [eb] at b
    have e : 2 ^ (A + B + 3 + C) = 2 ^ A * 2 ^ B * 8 * 2 ^ C := by rw [Nat.pow_add, Nat.pow_add, Nat.pow_add]
    have pA : 1 ≤ 2 ^ A := Nat.one_le_two_pow
    have pB : 1 ≤ 2 ^ B := Nat.one_le_two_pow
    have pC : 1 ≤ 2 ^ C := Nat.one_le_two_pow
    have k1 : 2 ^ B * 2 ^ C ≤ 2 ^ (A + B + 3 + C) := by rw [← Nat.pow_add]; exact Nat.pow_le_pow_right (by decide) (by omega)
    have k2 : 2 ^ C * 2 ^ A ≤ 2 ^ (A + B + 3 + C) := by rw [← Nat.pow_add]; exact Nat.pow_le_pow_right (by decide) (by omega)
    refine ⟨q.den * D, Nat.mul_pos dp h1, Nat.le_trans (Nat.mul_le_mul (by omega) h2) k1, ?_, by rw [List.length_cons]; omega⟩
    intro x hx
    rcases List.mem_cons.mp hx with rfl | hx
    · have hq : Sz x.den x.num.natAbs x := ⟨x.num, by rw [div_den x]; grind, Nat.le_refl _⟩
      have := hq.lift D
      rw [Nat.mul_comm D] at this
      exact this.mono (Nat.le_trans (Nat.mul_le_mul h2 (by omega)) k2)
    · exact ((h3 x hx).lift q.den).mono (Nat.le_trans (Nat.mul_le_mul (by omega) (Nat.le_refl _)) k1)
theorem p1600 : (2 : Nat) ^ 1600 < BIG := Nat.pow_lt_pow_right (by decide) (by decide)
theorem rok_of {h : Nat} {l : List Rat} (f : Fn 1600 h (rw' l)) : ∃ D, Rok D l := by
  obtain ⟨D, h1, h2, h3, h4⟩ := dens l
  have w : PyData.weightAll (l.map fr) ≤ 1600 := f.w
  have p := Nat.pow_le_pow_right (n := 2) (by decide) w
  have := p1600
  exact ⟨D, h1, by omega, by omega, fun x hx => (h3 x hx).mono p⟩
theorem len_w : ∀ ds : List D, ds.length ≤ PyData.weightAll ds
  | [] => Nat.le_refl _
  | d :: ds => by
    have := len_w ds
    simp only [PyData.weightAll, List.length_cons]; omega
theorem small2_of {h : Nat} {d : D} (f : Fn 1600 h d) : small2 d = true := by
  unfold small2
  split
  · rename_i p q
    have w : PyData.weightAll [.int p, .int q] ≤ 1600 := f.w
    simp only [PyData.weightAll] at w
    have a := bits_lt p
    have b := bits_lt q
    have a2 : 2 ^ (PyData.weight (.int p)) ≤ 2 ^ 9000 := Nat.pow_le_pow_right (by decide) (by omega)
    have b2 : 2 ^ (PyData.weight (.int q)) ≤ 2 ^ 9000 := Nat.pow_le_pow_right (by decide) (by omega)
    rw [Bool.and_eq_true]
    exact ⟨decide_eq_true (by omega), decide_eq_true (by omega)⟩
  · rename_i ds _
    have w : PyData.weightAll ds ≤ 1600 := f.w
    have := len_w ds
    exact decide_eq_true (by omega)
  · rfl
theorem good_of {h : Nat} {d : D} (f : Fn 1600 h d) : goodB d = true := by
  unfold goodB
  split
  · rename_i ds
    have w : PyData.weightAll ds ≤ 1600 := f.w
    have := len_w ds
    rw [Bool.and_eq_true]
    exact ⟨decide_eq_true (by omega), List.all_eq_true.mpr fun x hx => small2_of (f.untup.mem hx)⟩
  · rfl
theorem row_is {d : D} (h : rowB d = true) : ∃ l, d = rw' l ∧ Tr l := by
  unfold rowB at h
  split at h
  · rw [Bool.and_eq_true] at h
    obtain ⟨l, rfl⟩ := fracs_are h.1
    refine ⟨l, rfl, ?_⟩
    have := of_decide_eq_true h.2
    rwa [unfr_map] at this
  · cases h
theorem vi_is_row {h : Nat} {d : D} (f : Fn 1600 h d) : p_is_row [d] = some (.val (.bool (rowB d))) ∧ p__law_is_row [d] = some (.val (.bool (rowB d))) := ⟨v_is_row (good_of f), v__law_is_row (good_of f)⟩
section
variable {h : Nat} {l : List Rat} (f : Fn 1600 h (rw' l)) {n : Nat} (hn : n ≤ 500)
include f hn
theorem vr_at : p_row_at [rw' l, .int (n : Int)] = some (.val (fr (ev l (n : Rat)))) ∧ p__law_row_at [rw' l, .int (n : Int)] = some (.val (fr (ev l (n : Rat)))) := by
  obtain ⟨D, R0⟩ := rok_of f
  exact ⟨v_row_at R0 (n := (n : Int)) ⟨by omega, by omega⟩, v__law_row_at R0 (n := (n : Int)) ⟨by omega, by omega⟩⟩
end
/-! ### the law's row through worths -/
section
variable {D M : Nat} {l : List Rat} (d0 : 0 < D) (d1 : D < BIG) (ln : l.length ≤ 9) (lc : ∀ k, Sz D M (co l k)) (hM : 1024 * M < BIG)
include d0 d1 ln lc hM
theorem v__law_through {d : EL.D} (hd : d = .list (l.map fr)) : p__law_through [d] = some (.val (rw' (trim (thr l)))) := by
  have hg : gList [d] = some (.fl (l.map fr)) := by subst hd; rfl
  rw [tab_map] at hg
  refine runD_of rfl (rt_cons (nx_of (e' := ⟨[some (.val d), some (.ol []), some (.ol (tab l.length (co l))), none, none], S0⟩) (by simp [hg]) ?_))
  refine rt_cons (nx_wh (fun m e => m ≤ l.length ∧ e = ⟨[some (.val d), some (.ol (tab (l.length - m) fun k => df (co l) k 0)), some (.ol (tab m (df (co l) (l.length - m)))), none, none], S0⟩) l.length (by show l.length < 20000; omega) ⟨Nat.le_refl _, by rw [Nat.sub_self]; rfl⟩ ?_)
  rintro m e ⟨hm, rfl⟩
  cases m with
  | zero =>
    left
    have n0 := lNe_nilL []
    refine ⟨⟨[some (.val d), some (.ol (tab l.length fun k => df (co l) k 0)), some (.ol []), none, none], S0⟩, ?_, ?_⟩
    · have : tab 0 (df (co l) (l.length - 0)) = [] := rfl
      rw [this]
      simp [n0]
    · have ro := v__law_trimmed (l := thr l) (by rw [thr_len]; omega)
      have e1 : (thr l).map fr = tab l.length fun k => df (co l) k 0 := by unfold thr tab; rw [List.map_map]; rfl
      rw [e1] at ro
      have e0 : tab 0 (df (co l) (l.length - 0)) = [] := rfl
      refine ⟨⟨[some (.val d), some (.val (.list (tab l.length fun k => df (co l) k 0))), some (.ol []), none, none], S0⟩, ?_⟩
      simp [ro]
  | succ m =>
    right
    obtain ⟨k, hk⟩ : ∃ k, k = l.length - (m + 1) := ⟨_, rfl⟩
    rw [← hk]
    have hk' : l.length - m = k + 1 := by omega
    have n0 := lNe_nilL (tab (m + 1) (df (co l) k))
    have hne : (tab (m + 1) (df (co l) k)).isEmpty = false := by
      have := tab_len (m + 1) (df (co l) k)
      cases h : tab (m + 1) (df (co l) k) with
      | nil => rw [h] at this; simp at this
      | cons a r => rfl
    rw [hne] at n0
    have ix : gIx (.list (tab (m + 1) (df (co l) k))) (.int 0) = some (.val (fr (df (co l) k 0))) := ix_natL (n := 0) (tab_get (by omega) _)
    refine ⟨⟨[some (.val d), some (.ol (tab k fun k => df (co l) k 0)), some (.ol (tab (m + 1) (df (co l) k))), none, none], S0⟩, m, by simp [n0], rfl, ?_⟩
    have ap : tab k (fun k => df (co l) k 0) ++ [fr (df (co l) k 0)] = tab (k + 1) fun k => df (co l) k 0 := by unfold tab; rw [List.range_succ, List.map_append]; rfl
    have hs : (tab k fun k => df (co l) k 0).length < 16777216 := by rw [tab_len]; omega
    refine nx_cons (nx_of (e' := ⟨[some (.val d), some (.ol (tab (k + 1) fun k => df (co l) k 0)), some (.ol (tab (m + 1) (df (co l) k))), none, none], S0⟩) (by simp [ix, hs, ap]) ?_)
    have c := comp_ix (vs := [3, 4]) (I := iZipD (aCons (fVar 2) (aCons (eSl (oVar 2) (pIn (fC (.int 1))) (pNo)) (aNil)))) (g := gT 2 (gsCons (gN 3) (gsCons (gN 4) (gsNil)))) (F := eCall p__law_plus (aCons (fVar 4) (aCons (eCall p__law_by (aCons (eTup (aCons (eUn gNeg (oVal (fC (.int 1)))) (aCons (fC (.int 1)) (aNil)))) (aCons (fVar 3) (aNil)))) (aNil))))
      (e := ⟨[some (.val d), some (.ol (tab (k + 1) fun k => df (co l) k 0)), some (.ol (tab (m + 1) (df (co l) k))), none, none], S0⟩) (e1 := ⟨[some (.val d), some (.ol (tab (k + 1) fun k => df (co l) k 0)), some (.val (.list (tab (m + 1) (df (co l) k)))), none, none], S0⟩)
      (tab m (df (co l) (k + 1))) (ds := zipD (tab (m + 1) (df (co l) k)) (tab m fun t => df (co l) k (t + 1))) (by simp [cut_tail]) (by rw [zipD_len, tab_len, tab_len, tab_len]; omega) (by simp) (by simp) (by rw [zipD_len, tab_len]; omega) (fun i dd o hd ho => by
        obtain ⟨x, y, hx, hy, rfl⟩ := zipD_get _ _ _ _ hd
        obtain ⟨rfl, _⟩ := tab_at hx
        obtain ⟨rfl, _⟩ := tab_at hy
        obtain ⟨rfl, _⟩ := tab_at ho
        have o1 := ok_df d0 d1 ln lc hM (k := k) (j := i + 1) (by omega)
        have o2 := ok_df d0 d1 ln lc hM (k := k) (j := i) (by omega)
        have om : Ok (-1 : Rat) := ⟨by have := nb_big; show 1 < BIG; omega, by have := nb_big; show 1 < BIG; omega⟩
        have on : Ok (-1 * df (co l) k i) := by
          rw [show (-1 : Rat) * df (co l) k i = -(df (co l) k i) by grind]
          exact ⟨by rw [Rat.neg_num, Int.natAbs_neg]; exact o2.n, by rw [Rat.neg_den]; exact o2.d⟩
        have b := v__law_by om o2
        have fm : fr (-1) = .tuple [.int (-1), .int 1] := rfl
        rw [fm] at b
        have t := v__law_plus o1 on
        have e2 : df (co l) k (i + 1) + -1 * df (co l) k i = df (co l) (k + 1) i := by show _ = df (co l) k (i + 1) - df (co l) k i; grind
        rw [e2] at t
        exact ⟨_, ⟨[some (.val d), some (.ol (tab (k + 1) fun k => df (co l) k 0)), some (.val (.list (tab (m + 1) (df (co l) k)))), some (.val (fr (df (co l) k i))), some (.val (fr (df (co l) k (i + 1))))], S0⟩, .val (fr (df (co l) (k + 1) i)), rfl, by simp [b, t], rfl, by simp⟩)
    refine nx_mono (nx_set c (by simp) (P := fun e => e = ⟨[some (.val d), some (.ol (tab (k + 1) fun k => df (co l) k 0)), some (.ol (tab m (df (co l) (k + 1)))), none, none], S0⟩) (by simp)) ?_
    rintro e rfl
    exact ⟨by omega, by rw [hk']⟩
end
end Law
end EL
set_option exponentiation.threshold 20000
namespace EL
open PySem PySem.Spec PyProof.Rows L2 R
namespace Law
def formD : D := .tuple [.str "form"]
def rowF (ws l : List Rat) : D := match first (fun n => !decide (ev l (n : Rat) = co ws n)) ws.length with
  | some n => .tuple [.str "at", .int (n : Int), fr (co ws n)]
  | none => if ws.length < l.length then .tuple [.str "longer", .int ((trim (thr ws)).length : Int)] else .none
def unrow : D → List Rat
  | .tuple ds => ds.map unfr
  | _ => []
theorem unrow_row (l : List Rat) : unrow (rw' l) = l := unfr_map l
def rowV (ws : List Rat) (v : D) : D := if rowB v = true then rowF ws (unrow v) else formD
section
variable {M : Nat} {ws : List Rat} (ln : ws.length ≤ 9) (lc : ∀ k, Sz 6 M (co ws k)) (hM : 1024 * M < BIG) {h : Nat} {v : D} (f : Fn 1600 h v)
include ln lc hM f
theorem v_judge_row : p_judge_row [.list (ws.map fr), v] = some (.val (rowV ws v)) := by
  obtain ⟨r1, r2⟩ := vi_is_row f
  unfold rowV
  by_cases hb : rowB v = true
  · obtain ⟨l, rfl, _⟩ := row_is hb
    rw [if_pos hb, unrow_row]
    rw [hb] at r1
    have six : (6 : Nat) < BIG := by have := nb_big; omega
    have th := v_row_through (D := 6) (by decide) six ln lc hM (d := .list (ws.map fr)) (.inl rfl)
    have hlen : gLenD [rw' l] = some (.val (.int (l.length : Int))) := by unfold rw'; simp
    have hlen2 : gLenD [rw' (trim (thr ws))] = some (.val (.int ((trim (thr ws)).length : Int))) := by unfold rw'; simp
    refine runD_of rfl (rt_cons (nx_skip (e1 := ⟨[some (.val (.list (ws.map fr))), some (.val (rw' l)), none, none], S0⟩) (by simp [r1]) ?_))
    refine rt_first (fun i e => ∃ x y, e = ⟨[some (.val (.list (ws.map fr))), some (.val (rw' l)), x, y], S0⟩) (fun n => !decide (ev l (n : Rat) = co ws n)) (fun n => .val (.tuple [.str "at", .int (n : Int), fr (co ws n)])) (ds := enumD 0 (ws.map fr)) (e1 := ⟨[some (.val (.list (ws.map fr))), some (.val (rw' l)), none, none], S0⟩) (by simp) ⟨none, none, rfl⟩ ?_ ?_ ?_
    · rintro i e d hd ⟨x, y, rfl⟩
      obtain ⟨z, hz, rfl⟩ := enum_at hd
      obtain ⟨q, hq, rfl⟩ := get_map hz
      obtain ⟨rfl, hi⟩ := get_co hq
      have ra := (vr_at f (n := i) (by omega)).1
      have ne := lNeF (ev l (i : Rat)) (co ws i)
      refine ⟨_, rfl, ⟨[some (.val (.list (ws.map fr))), some (.val (rw' l)), some (.val (.int (i : Int))), some (.val (fr (co ws i)))], S0⟩, by simp [ra, ne], fun _ => ⟨_, _, rfl⟩, fun _ => ⟨_, by simp; rfl⟩⟩
    · intro i hi hc hbf
      rw [enumD_len, List.length_map] at hi
      unfold rowF
      rcases first_cases (fun n => !decide (ev l (n : Rat) = co ws n)) ws.length with ⟨n, e1, e2, e3, e4⟩ | ⟨e1, e2⟩
      · have : n = i := by
          rcases Nat.lt_trichotomy n i with q | q | q
          · have := hbf n q; rw [e3] at this; cases this
          · exact q
          · have := e4 i q; rw [hc] at this; cases this
        subst this
        rw [e1]
      · have := e2 i hi; rw [hc] at this; cases this
    · rintro hall e ⟨x, y, rfl⟩
      rw [enumD_len, List.length_map] at hall
      have e0 : rowF ws l = if ws.length < l.length then .tuple [.str "longer", .int ((trim (thr ws)).length : Int)] else .none := by
        unfold rowF
        rcases first_cases (fun n => !decide (ev l (n : Rat) = co ws n)) ws.length with ⟨n, e1, e2, e3, e4⟩ | ⟨e1, e2⟩
        · have := hall n e2; rw [e3] at this; cases this
        · rw [e1]
      rw [e0]
      refine ⟨⟨[some (.val (.list (ws.map fr))), some (.val (rw' l)), x, y], S0⟩, ?_⟩
      by_cases hl : ws.length < l.length
      · rw [if_pos hl]
        simp [hlen, hlen2, th, hl]
      · rw [if_neg hl]
        simp [hlen, hl]
  · rw [if_neg hb]
    have hb' : rowB v = false := by simpa using hb
    rw [hb'] at r1
    refine runD_of rfl ⟨⟨[some (.val (.list (ws.map fr))), some (.val v), none, none], S0⟩, bCons_rt (r := .val formD) ?_⟩
    simp [r1, formD]
theorem v__law_row_fault : p__law_row_fault [.list (ws.map fr), v] = some (.val (rowV ws v)) := by
  obtain ⟨r1, r2⟩ := vi_is_row f
  unfold rowV
  by_cases hb : rowB v = true
  · obtain ⟨l, rfl, _⟩ := row_is hb
    rw [if_pos hb, unrow_row]
    rw [hb] at r2
    have six : (6 : Nat) < BIG := by have := nb_big; omega
    have th := v__law_through (D := 6) (by decide) six ln lc hM (d := .list (ws.map fr)) rfl
    have hlen : gLenD [rw' l] = some (.val (.int (l.length : Int))) := by unfold rw'; simp
    have hlen2 : gLenD [rw' (trim (thr ws))] = some (.val (.int ((trim (thr ws)).length : Int))) := by unfold rw'; simp
    have hw : inW (ws.length : Int) = true := x_inW (by omega) (by omega)
    have c := comp_flt (e := ⟨[some (.val (.list (ws.map fr))), some (.val (rw' l)), none, none], S0⟩) (e1 := ⟨[some (.val (.list (ws.map fr))), some (.val (rw' l)), none, none], S0⟩) (i := 3) (I := iRg1 (oCons (oVal (eB gLenD (oCons (oVar 0) (oNil)))) (oNil))) (T := tOf (eBin lNe (oVal (eCall p__law_row_at (aCons (fVar 1) (aCons (fVar 3) (aNil))))) (oVal (eBin gIx (oVar 0) (oVar 3))))) (F := fVar 3) (ds := rgL 0 ws.length)
      (fun d => match d with | .int i => !decide (ev l ((i.toNat : Nat) : Rat) = co ws i.toNat) | _ => false) id (by simp [hw]) rfl (by rw [rgL_len]; omega) (fun d hd => by
        obtain ⟨k, hk, rfl⟩ := rgL_mem hd
        have ra := (vr_at f (n := k) (by omega)).2
        have ne := lNeF (ev l (k : Rat)) (co ws k)
        have ix := ix_rowL hk
        simp [ra, ne, ix]) (fun d hd _ => ⟨.val d, by simp, rfl⟩)
    rw [List.map_id] at c
    refine runD_of rfl (rt_cons (nx_skip (e1 := ⟨[some (.val (.list (ws.map fr))), some (.val (rw' l)), none, none], S0⟩) (by simp [r2]) ?_))
    refine rt_cons (nx_set c (by simp) ?_)
    unfold rowF
    rcases first_cases (fun n => !decide (ev l (n : Rat) = co ws n)) ws.length with ⟨n, e1, e2, e3, e4⟩ | ⟨e1, e2⟩
    · rw [e1]
      obtain ⟨rest, hf⟩ := flt_first (m := fun d : EL.D => match d with | .int i => !decide (ev l ((i.toNat : Nat) : Rat) = co ws i.toNat) | _ => false) (x := .int (n : Int)) (l := rgL 0 ws.length) (n := n) (by unfold rgL; simp [e2]) (by simpa using e3) (fun j y hj hy => by
        obtain ⟨rfl, hj2⟩ := rgL_get hy
        have := e4 j hj
        simpa using this)
      rw [hf]
      have n0 := lNe_nilL (.int (n : Int) :: rest)
      have ix0 : gIx (.list (.int (n : Int) :: rest)) (.int 0) = some (.val (.int (n : Int))) := ix_natL (n := 0) rfl
      have ix := ix_rowL e2
      refine ⟨⟨[some (.val (.list (ws.map fr))), some (.val (rw' l)), some (.ol (.int (n : Int) :: rest)), none], S0⟩, bCons_rt (r := .val (.tuple [.str "at", .int (n : Int), fr (co ws n)])) ?_⟩
      simp [n0, ix0, ix]
    · rw [e1]
      have hf : (rgL 0 ws.length).filter (fun d : EL.D => match d with | .int i => !decide (ev l ((i.toNat : Nat) : Rat) = co ws i.toNat) | _ => false) = [] := by
        rw [List.filter_eq_nil_iff]
        intro d hd
        obtain ⟨k, hk, rfl⟩ := rgL_mem hd
        have := e2 k hk
        simpa using this
      rw [hf]
      have n0 := lNe_nilL []
      refine rt_cons (nx_skip (e1 := ⟨[some (.val (.list (ws.map fr))), some (.val (rw' l)), some (.ol []), none], S0⟩) (by simp [n0]) ?_)
      refine ⟨⟨[some (.val (.list (ws.map fr))), some (.val (rw' l)), some (.ol []), none], S0⟩, ?_⟩
      by_cases hl : ws.length < l.length
      · simp [hlen, hlen2, th, hl]
      · simp [hlen, hl]
  · rw [if_neg hb]
    have hb' : rowB v = false := by simpa using hb
    rw [hb'] at r2
    refine runD_of rfl ⟨⟨[some (.val (.list (ws.map fr))), some (.val v), none, none], S0⟩, bCons_rt (r := .val formD) ?_⟩
    simp [r2, formD]
end
end Law
end EL
set_option exponentiation.threshold 20000
namespace EL
open PySem PySem.Spec PyProof.Rows L2 R
namespace Law
/-! ### a mean -/
def mn (l m : List Rat) : D := .tuple [rw' l, rw' m]
theorem cut_done {l m : List Rat} {k : Nat} (h : k = 0 ∨ co m (k - 1) ≠ ev l ((k - 1 : Nat) : Rat)) : cutN l m k = k := by
  cases k with
  | zero => rfl
  | succ k =>
    unfold cutN
    rcases h with h | h
    · omega
    · rw [if_neg (by simpa using h)]
theorem cut_go {l m : List Rat} {k : Nat} (h : co m k = ev l (k : Rat)) : cutN l m (k + 1) = cutN l m k := by rw [cutN, if_pos h]
section
variable {h : Nat} {l m : List Rat} (f : Fn 1600 h (rw' (trim l))) (ll : l.length ≤ 400) (lm : m.length ≤ 400)
include f ll lm
theorem v_mean_pair : p_mean_pair [rw' l, .list (m.map fr)] = some (.val (mn (trim l) (cutE (trim l) m))) := by
  have ro := v_row_of (l := l) (by omega) (.inr rfl)
  have ro : p_row_of [rw' l] = some (.val (rw' (trim l))) := ro
  obtain ⟨t, ht⟩ : ∃ t, t = trim l := ⟨_, rfl⟩
  rw [← ht] at ro f ⊢
  refine runD_of rfl (rt_cons (nx_of (e' := ⟨[some (.val (rw' l)), some (.val (.list (m.map fr))), some (.val (rw' t)), some (.ol ((m.map fr).take m.length))], S0⟩) (by rw [List.take_of_length_le (by simp)]; simp [ro]) (rt_cons (nx_wh (fun k e => e = ⟨[some (.val (rw' l)), some (.val (.list (m.map fr))), some (.val (rw' t)), some (.ol ((m.map fr).take k))], S0⟩ ∧ k ≤ m.length ∧ cutN t m k = cutN t m m.length) m.length (by show m.length < 20000; omega) ⟨rfl, Nat.le_refl _, rfl⟩ ?_))))
  rintro k e ⟨rfl, h1, h2⟩
  by_cases h0 : k = 0
  · left
    subst h0
    refine ⟨⟨[some (.val (rw' l)), some (.val (.list (m.map fr))), some (.val (rw' t)), some (.ol [])], S0⟩, ?_, ⟨[some (.val (rw' l)), some (.val (.list (m.map fr))), some (.val (rw' t)), some (.ol [])], S0⟩, ?_⟩
    · have := lNe_nilL []
      simp [this]
    · have ht : mn t (cutE t m) = .tuple [rw' t, .tuple []] := by
        unfold mn cutE
        rw [← h2]; rfl
      simp [ht]
  · obtain ⟨k, rfl⟩ : ∃ j, k = j + 1 := ⟨k - 1, by omega⟩
    have hk1 : k < m.length := by omega
    have hlen : ((m.map fr).take (k + 1)).length = k + 1 := by simp; omega
    obtain ⟨ds, hds⟩ : ∃ ds, ds = (m.map fr).take (k + 1) := ⟨_, rfl⟩
    have hne : lNe (.list ds) (.list []) = some (.val (.bool true)) := by
      cases ds with
      | nil => rw [← hds] at hlen; simp at hlen
      | cons a r => rfl
    have hlast : gIx (.list ds) (.int (-1)) = some (.val (fr (co m k))) := by
      show (L2.atI ds (-1)).bind (fun d => some (Rs.val d)) = _
      have : L2.atI ds (-1) = some (fr (co m k)) := by
        unfold L2.atI L2.ixN
        rw [hds, hlen, if_neg (by omega), if_pos (by omega)]
        have : ((-1 : Int) + ((k + 1 : Nat) : Int)).toNat = k := by omega
        rw [Option.bind_some, this, List.getElem?_take, if_pos (by omega), List.getElem?_map, co_get hk1]; rfl
      rw [this]; rfl
    rw [← hds] at hlen ⊢
    have ra := (vr_at f (n := k) (by omega)).1
    have q := qEqF (co m k) (ev t (k : Rat))
    have e1 : ((ds.length : Nat) : Int) - 1 = (k : Int) := by omega
    by_cases hc : co m k = ev t (k : Rat)
    · right
      refine ⟨⟨[some (.val (rw' l)), some (.val (.list (m.map fr))), some (.val (rw' t)), some (.ol ds)], S0⟩, k, ?_, rfl, nx_of (e' := ⟨[some (.val (rw' l)), some (.val (.list (m.map fr))), some (.val (rw' t)), some (.ol ((m.map fr).take k))], S0⟩) ?_ ⟨rfl, by omega, by rw [← cut_go hc]; exact h2⟩⟩
      · rw [decide_eq_true hc] at q
        simp [hne, hlast, ra, q, e1]
      · have hd : ds.dropLast = (m.map fr).take k := by rw [List.dropLast_eq_take, hlen, hds, List.take_take]; congr 1; omega
        have hl' : ds[ds.length - 1]? = some (fr (co m k)) := by
          rw [hlen, hds, List.getElem?_take, if_pos (by omega), List.getElem?_map, show k + 1 - 1 = k by omega, co_get hk1]; rfl
        simp only [x_sDrop, x_mPop, x_lstAt, List.getElem?_cons_succ, List.getElem?_cons_zero, Option.bind_some, hl', hd, x_put, List.set]
    · left
      refine ⟨⟨[some (.val (rw' l)), some (.val (.list (m.map fr))), some (.val (rw' t)), some (.ol ds)], S0⟩, ?_, ⟨[some (.val (rw' l)), some (.val (.list (m.map fr))), some (.val (rw' t)), some (.ol ds)], S0⟩, ?_⟩
      · rw [decide_eq_false hc] at q
        simp [hne, hlast, ra, q, e1]
      · have ht : mn t (cutE t m) = .tuple [rw' t, .tuple ds] := by
          unfold mn cutE rw'
          rw [List.map_take, ← h2, cut_done (.inr (by simpa using hc)), hds]
        simp [ht]
end
/-! ### whether anything is a mean -/
def meanB : D → Bool
  | .tuple [r, .tuple es] => rowB r && (es.all fracB && decide (Pe (unrow r) (es.map unfr)))
  | _ => false
theorem meanB_mn (l m : List Rat) : meanB (mn l m) = (decide (Tr l) && decide (Pe l m)) := by
  show (rowB (rw' l) && ((m.map fr).all fracB && decide (Pe (unrow (rw' l)) ((m.map fr).map unfr)))) = _
  rw [rowB_row, fr_all, unrow_row, unfr_map]; rfl
theorem mean_is {d : D} (h : meanB d = true) : ∃ l m, d = mn l m ∧ Tr l ∧ Pe l m := by
  unfold meanB at h
  split at h
  · rename_i r es
    rw [Bool.and_eq_true, Bool.and_eq_true] at h
    obtain ⟨l, rfl, hl⟩ := row_is h.1
    obtain ⟨m, rfl⟩ := fracs_are h.2.1
    have := of_decide_eq_true h.2.2
    rw [unrow_row, unfr_map] at this
    exact ⟨l, m, rfl, hl, this⟩
  · cases h
theorem meanB_len {ds : List D} (h : ds.length ≠ 2) : meanB (.tuple ds) = false := by
  unfold meanB
  split
  · rename_i e; injection e with e; subst e; exact absurd rfl h
  · rfl
theorem two_of {ds : List D} (h : ds.length = 2) : ∃ a b, ds = [a, b] := by
  match ds, h with
  | [a, b], _ => exact ⟨a, b, rfl⟩
theorem meanB_nt {r e : D} (h : instB "tuple" (tyD e) = false) : meanB (.tuple [r, e]) = false := by
  cases e <;> first | rfl | cases h
theorem tup_of {e : D} (h : instB "tuple" (tyD e) = true) : ∃ es, e = .tuple es := by
  cases e <;> first | exact ⟨_, rfl⟩ | cases h
section
variable {h : Nat} {l m : List Rat} (f : Fn 1600 h (mn l m))
include f
theorem mn_fn : Fn 1600 h (rw' l) ∧ Fn 1600 h (rw' m) ∧ l.length + m.length ≤ 400 := by
  have f2 : FnA 1600 h [rw' l, rw' m] := f.untup
  obtain ⟨D, _, _, _, h4⟩ := dens l
  obtain ⟨D', _, _, _, h4'⟩ := dens m
  have w : PyData.weightAll [rw' l, rw' m] ≤ 1600 := f.w
  simp only [PyData.weightAll] at w
  have e1 : PyData.weight (rw' l) = PyData.weightAll (l.map fr) := by unfold rw'; simp only [PyData.weight]
  have e2 : PyData.weight (rw' m) = PyData.weightAll (m.map fr) := by unfold rw'; simp only [PyData.weight]
  exact ⟨f2.mem (by simp), f2.mem (by simp), by omega⟩
theorem at_last (hm : m ≠ []) : gIx (rw' m) (.int (-1)) = some (.val (fr (co m (m.length - 1)))) ∧ p_row_at [rw' l, .int ((m.length : Int) - 1)] = some (.val (fr (ev l ((m.length - 1 : Nat) : Rat)))) ∧ p__law_row_at [rw' l, .int ((m.length : Int) - 1)] = some (.val (fr (ev l ((m.length - 1 : Nat) : Rat)))) := by
  obtain ⟨f1, f2, f3⟩ := mn_fn f
  have h0 : 0 < m.length := List.length_pos_iff.mpr hm
  have e1 : (m.length : Int) - 1 = ((m.length - 1 : Nat) : Int) := by omega
  obtain ⟨a, b⟩ := vr_at f1 (n := m.length - 1) (by omega)
  rw [e1]
  exact ⟨ix_last hm, a, b⟩
theorem mean_tail : VE (eOr (eBin qEq (oVal (eBin gIx (oVar 0) (oVal (fC (.int 1))))) (oVal (eTup (aNil)))) (eBin lNe (oVal (eBin gIx (oVal (eBin gIx (oVar 0) (oVal (fC (.int 1))))) (oVal (eUn gNeg (oVal (fC (.int 1))))))) (oVal (eCall p_row_at (aCons (eBin gIx (oVar 0) (oVal (fC (.int 0)))) (aCons (eBin gSub (oVal (eB gLenD (oCons (oVal (eBin gIx (oVar 0) (oVal (fC (.int 1))))) (oNil)))) (oVal (fC (.int 1)))) (aNil))))))) ⟨[some (.val (mn l m)), none], S0⟩ (.val (.bool (decide (Pe l m)))) := by
  have q0 := qEq_row0 m
  have hlen : gLenD [rw' m] = some (.val (.int (m.length : Int))) := by unfold rw'; simp
  unfold VE mn
  by_cases hm : m = []
  · rw [decide_eq_true hm] at q0
    rw [decide_eq_true (show Pe l m from .inl hm)]
    simp [q0]
  · obtain ⟨a1, a2, a3⟩ := at_last f hm
    have ne := lNeF (co m (m.length - 1)) (ev l ((m.length - 1 : Nat) : Rat))
    rw [decide_eq_false hm] at q0
    have e1 : decide (Pe l m) = !decide (co m (m.length - 1) = ev l ((m.length - 1 : Nat) : Rat)) := by
      rw [Bool.eq_iff_iff]
      simp [Pe, hm]
    rw [e1]
    simp [q0, a1, a2, ne, hlen]
end
theorem v_is_mean {h : Nat} {d : D} (f : Fn 1600 h d) : p_is_mean [d] = some (.val (.bool (meanB d))) := by
  by_cases ht : instB "tuple" (tyD d) = true
  · obtain ⟨ds, rfl⟩ := tup_of ht
    by_cases h2 : ds.length = 2
    · obtain ⟨r, e, rfl⟩ := two_of h2
      have fr' : Fn 1600 h r := f.untup.mem (by simp)
      have fe : Fn 1600 h e := f.untup.mem (by simp)
      have r1 := (vi_is_row fr').1
      by_cases hb : rowB r = true
      · by_cases he : instB "tuple" (tyD e) = true
        · obtain ⟨es, rfl⟩ := tup_of he
          rw [hb] at r1
          have hl : es.length ≤ 1600 := by
            have w : PyData.weightAll es ≤ 1600 := fe.w
            have := len_w es
            omega
          have c : VE (eB gAll (oCons (oVal (eComp [1] (iSeq (eBin gIx (oVar 0) (oVal (fC (.int 1))))) (gN 1) tYs (eCall p_is_fraction (aCons (fVar 1) (aNil))))) (oNil))) ⟨[some (.val (.tuple [r, .tuple es])), none], S0⟩ (.val (.bool (es.all fracB))) :=
            all_look fracB (by simp) rfl (by omega) fun x hx => vCall (asC (vVar (by simp [EE.put])) asN) (v_is_fraction (small2_of (fe.untup.mem hx)))
          refine runD_of rfl (rt_cons (nx_skip (e1 := ⟨[some (.val (.tuple [r, .tuple es])), none], S0⟩) (by simp [r1, instT, instB, tyD]) ?_))
          by_cases hf : es.all fracB = true
          · rw [hf] at c
            obtain ⟨l, rfl, _⟩ := row_is hb
            obtain ⟨m, rfl⟩ := fracs_are hf
            have e1 : meanB (.tuple [rw' l, .tuple (m.map fr)]) = decide (Pe l m) := by
              have := meanB_mn l m
              rw [rowB_row] at hb
              rw [hb, Bool.true_and] at this
              exact this
            rw [e1]
            exact rt_cons (nx_skip (tNot' (tOf' c)) (rRet (mean_tail f)))
          · have hf : es.all fracB = false := by simpa using hf
            rw [hf] at c
            have e1 : meanB (.tuple [r, .tuple es]) = false := by
              show (rowB r && (es.all fracB && _)) = false
              rw [hf, Bool.false_and, Bool.and_false]
            rw [e1]
            exact rIfT (tNot' (tOf' c)) rfl (rRet vC)
        · have he : instB "tuple" (tyD e) = false := by simpa using he
          rw [hb] at r1
          rw [meanB_nt he]
          refine runD_of rfl ⟨⟨[some (.val (.tuple [r, e])), none], S0⟩, bCons_rt (r := .val (.bool false)) ?_⟩
          simp [r1, instT, he]
      · have hb' : rowB r = false := by simpa using hb
        rw [hb'] at r1
        have e1 : meanB (.tuple [r, e]) = false := by
          unfold meanB
          split
          · rename_i q; injection q with q; injection q with q1 q2; injection q2 with q2 q3; subst q1; rw [hb']; rfl
          · rfl
        rw [e1]
        refine runD_of rfl ⟨⟨[some (.val (.tuple [r, e])), none], S0⟩, bCons_rt (r := .val (.bool false)) ?_⟩
        simp [r1, instT, instB, tyD]
    · rw [meanB_len h2]
      exact runD_of rfl (rIfT (c := true) (tOrF (tNot' (tOf' (vInst (oVar' rfl rfl) rfl))) rfl (tOrT (tOf' (vBin (oVal' (vB (osC (oVar' rfl rfl) osN) (gLen_tup _))) (oVal' vC) (lNe_int _ _))) (by simp; omega))) rfl (rRet vC))
  · have hn : instB "tuple" (tyD d) = false := by simpa using ht
    have e : meanB d = false := by cases d <;> first | rfl | exact absurd rfl ht
    rw [e]
    exact runD_of rfl (rIfT (tOrT (tNot' (tOf' (vInst (oVar' rfl rfl) rfl))) (by rw [hn]; rfl)) rfl (rRet vC))
end Law
end EL
set_option exponentiation.threshold 20000
namespace EL
open PySem PySem.Spec PyProof.Rows L2 R
namespace Law
/-! ### what a mean is at n -/
section
variable {h : Nat} {l m : List Rat} (f : Fn 1600 h (rw' l)) {n : Nat} (hn : n ≤ 500)
include f hn
theorem v_mean_at : p_mean_at [mn l m, .int (n : Int)] = some (.val (fr (mat l m n))) := by
  have hlen : gLenD [rw' m] = some (.val (.int (m.length : Int))) := by unfold rw'; simp
  have ra := (vr_at f hn).1
  unfold mn mat
  by_cases q : n < m.length
  · have ix : gIx (rw' m) (.int (n : Int)) = some (.val (fr (co m n))) := ix_rowT q
    simp [p_mean_at, b_mean_at, hlen, q, ix]
  · simp [p_mean_at, b_mean_at, hlen, q, ra]
theorem v__law_at : p__law_at [mn l m, .int (n : Int)] = some (.val (fr (mat l m n))) := by
  have hlen : gLenD [rw' m] = some (.val (.int (m.length : Int))) := by unfold rw'; simp
  have ra := (vr_at f hn).2
  unfold mn mat
  by_cases q : n < m.length
  · have ix : gIx (rw' m) (.int (n : Int)) = some (.val (fr (co m n))) := ix_rowT q
    simp [p__law_at, b__law_at, hlen, q, ix]
  · simp [p__law_at, b__law_at, hlen, q, ra]
end
theorem sh_mn (l m : List Rat) : SeqAt.shaped (mn l m) = true := by
  have h1 := sh_row l
  have h2 := sh_row m
  unfold SeqAt.shaped at h1 h2 ⊢
  rw [Bool.and_eq_true] at h1 h2
  have d1 : PyData.depth (rw' l) ≤ 2 := by
    have h2 : ∀ l : List Rat, PyData.depthAll (l.map fr) ≤ 1 := by
      intro l
      induction l with
      | nil => simp [PyData.depthAll]
      | cons a l ih => rw [List.map_cons]; simp only [PyData.depthAll]; have : PyData.depth (fr a) = 1 := by simp [fr, PyData.depth, PyData.depthAll]
                       omega
    have := h2 l
    unfold rw'; simp [PyData.depth]; omega
  have d2 : PyData.depth (rw' m) ≤ 2 := by
    have h2 : ∀ l : List Rat, PyData.depthAll (l.map fr) ≤ 1 := by
      intro l
      induction l with
      | nil => simp [PyData.depthAll]
      | cons a l ih => rw [List.map_cons]; simp only [PyData.depthAll]; have : PyData.depth (fr a) = 1 := by simp [fr, PyData.depth, PyData.depthAll]
                       omega
    have := h2 m
    unfold rw'; simp [PyData.depth]; omega
  have e1 : PyData.canLay0 (mn l m) = true := by simp [mn, PyData.canLay0, PyData.canLayAll0, h1.1, h2.1]
  have e2 : PyData.depth (mn l m) ≤ 3 := by simp [mn, PyData.depth, PyData.depthAll]; omega
  rw [e1, Bool.true_and]
  exact decide_eq_true (by omega)
theorem qEq_mn (l m l' m' : List Rat) : qEq (mn l m) (mn l' m') = some (.val (.bool (decide (l = l' ∧ m = m')))) := by
  show gEq (mn l m) (mn l' m') = _
  unfold gEq
  rw [sh_mn, sh_mn]
  have e : ∀ a b, PyData.eqv (rw' a) (rw' b) = decide (a = b) := fun a b => by unfold rw'; simp only [PyData.eqv]; exact eqv_rows a b
  have : PyData.eqv (mn l m) (mn l' m') = decide (l = l' ∧ m = m') := by
    unfold mn
    simp only [PyData.eqv, PyData.eqvAll, e]
    rw [Bool.eq_iff_iff]; simp
  rw [this]; rfl
/-! ### the first fault of a told mean -/
def lateN (l0 m0 l m : List Rat) : Nat := max m0.length m.length + max l0.length l.length
def lateF (l0 m0 l m : List Rat) : D := match first (fun n => !decide (mat l m n = mat l0 m0 n)) (lateN l0 m0 l m + 1) with
  | some n => .tuple [.str "at", .int (n : Int), fr (mat l0 m0 n)]
  | none => .none
def unmean : D → List Rat × List Rat
  | .tuple [r, .tuple es] => (unrow r, es.map unfr)
  | _ => ([], [])
theorem unmean_mn (l m : List Rat) : unmean (mn l m) = (l, m) := by
  show (unrow (rw' l), (m.map fr).map unfr) = _
  rw [unrow_row, unfr_map]
def lateV (l0 m0 : List Rat) (v : D) : D := if meanB v = true then lateF l0 m0 (unmean v).1 (unmean v).2 else formD
section
variable {l0 m0 : List Rat} {h0 : Nat} (f0 : Fn 1600 h0 (rw' l0)) (z0 : l0.length ≤ 9) (z1 : m0.length ≤ 9)
include f0 z0 z1
theorem late_many (l m : List Rat) : gLenD [rw' l] = some (.val (.int (l.length : Int))) ∧ gLenD [rw' m0] = some (.val (.int (m0.length : Int))) ∧ gLenD [rw' m] = some (.val (.int (m.length : Int))) ∧ gLenD [rw' l0] = some (.val (.int (l0.length : Int))) ∧
    (if m0.length < m.length then (m.length : Int) else (m0.length : Int)) + (if l0.length < l.length then (l.length : Int) else (l0.length : Int)) = (lateN l0 m0 l m : Int) := by
  refine ⟨by unfold rw'; simp, by unfold rw'; simp, by unfold rw'; simp, by unfold rw'; simp, ?_⟩
  unfold lateN
  split <;> split <;> omega
variable {h : Nat} {v : D} (f : Fn 1600 h v) (t0 : Tr l0) (p0 : Pe l0 m0)
include f t0 p0
theorem v_judge_late : p_judge_late [mn l0 m0, v] = some (.val (lateV l0 m0 v)) := by
  have r1 := v_is_mean f
  unfold lateV
  by_cases hb : meanB v = true
  · obtain ⟨l, m, rfl, tl, pl⟩ := mean_is hb
    rw [if_pos hb, unmean_mn]
    rw [hb] at r1
    obtain ⟨f1, f2, f3⟩ := mn_fn f
    have qe := qEq_mn l m l0 m0
    obtain ⟨n1, n2, n3, n4, n5⟩ := late_many f0 z0 z1 l m
    obtain ⟨K, hK⟩ : ∃ K, K = lateN l0 m0 l m := ⟨_, rfl⟩
    have hK2 : K ≤ 420 := by rw [hK]; unfold lateN; omega
    dsimp only
    unfold lateF
    rw [← hK] at n5 ⊢
    refine runD_of rfl (rt_cons (nx_skip (e1 := ⟨[some (.val (mn l0 m0)), some (.val (mn l m)), none, none], S0⟩) (by simp [r1]) ?_))
    rcases first_cases (fun n => !decide (mat l m n = mat l0 m0 n)) (K + 1) with ⟨n, e1, e2, e3, e4⟩ | ⟨e1, e2⟩
    · rw [e1]
      have hne : ¬ (l = l0 ∧ m = m0) := by
        rintro ⟨rfl, rfl⟩
        simp at e3
      rw [decide_eq_false hne] at qe
      refine rt_cons (nx_skip (e1 := ⟨[some (.val (mn l0 m0)), some (.val (mn l m)), none, none], S0⟩) (by simp [qe]) ?_)
      refine rt_cons (nx_of (e' := ⟨[some (.val (mn l0 m0)), some (.val (mn l m)), some (.val (.int (K : Int))), none], S0⟩) (by
        unfold mn
        simp [n1, n2, n3, n4, n5]) ?_)
      refine rt_cons (nx_of (e' := ⟨[some (.val (mn l0 m0)), some (.val (mn l m)), some (.val (.int (K : Int))), some (.val (.int ((n - n : Nat) : Int)))], S0⟩) (by simp) ?_)
      have at0 := v_mean_at (m := m0) f0 (n := n) (by omega)
      refine rt_cons (nx_wh (fun j e => e = ⟨[some (.val (mn l0 m0)), some (.val (mn l m)), some (.val (.int (K : Int))), some (.val (.int ((n - j : Nat) : Int)))], S0⟩ ∧ j ≤ n) n (by show n < 20000; omega) ⟨rfl, Nat.le_refl _⟩ ?_)
      rintro j e ⟨rfl, hj⟩
      by_cases hj0 : j = 0
      · left
        subst hj0
        refine ⟨⟨[some (.val (mn l0 m0)), some (.val (mn l m)), some (.val (.int (K : Int))), some (.val (.int (n : Int)))], S0⟩, ?_, ⟨[some (.val (mn l0 m0)), some (.val (mn l m)), some (.val (.int (K : Int))), some (.val (.int (n : Int)))], S0⟩, ?_⟩
        · rw [Nat.sub_zero]
          by_cases hnK : n < K
          · have a1 := v_mean_at (m := m) f1 (n := n) (by omega)
            have q := qEqF (mat l m n) (mat l0 m0 n)
            rw [show decide (mat l m n = mat l0 m0 n) = false by simpa using e3] at q
            simp [hnK, a1, at0, q]
          · simp [hnK]
        · simp [at0]
      · right
        obtain ⟨i, hi⟩ : ∃ i, i = n - j := ⟨_, rfl⟩
        have a1 := v_mean_at (m := m) f1 (n := i) (by omega)
        have a0 := v_mean_at (m := m0) f0 (n := i) (by omega)
        have q := qEqF (mat l m i) (mat l0 m0 i)
        have := e4 i (by omega)
        rw [show decide (mat l m i = mat l0 m0 i) = true by simpa using this] at q
        have hiK : i < K := by omega
        rw [← hi]
        refine ⟨⟨[some (.val (mn l0 m0)), some (.val (mn l m)), some (.val (.int (K : Int))), some (.val (.int (i : Int)))], S0⟩, j - 1, by simp [hiK, a1, a0, q], by omega, nx_of (e' := ⟨[some (.val (mn l0 m0)), some (.val (mn l m)), some (.val (.int (K : Int))), some (.val (.int ((n - (j - 1) : Nat) : Int)))], S0⟩) ?_ ⟨rfl, by omega⟩⟩
        have : ((n - (j - 1) : Nat) : Int) = (i : Int) + 1 := by omega
        rw [this]
        simp
    · rw [e1]
      have hu : l = l0 ∧ m = m0 := by
        have := mean_uniq t0 tl p0 pl fun n hn => by
          have := e2 n (by rw [hK]; unfold lateN; omega)
          have : mat l m n = mat l0 m0 n := by simpa using this
          exact this.symm
        exact ⟨this.1.symm, this.2.symm⟩
      rw [decide_eq_true hu] at qe
      refine ⟨⟨[some (.val (mn l0 m0)), some (.val (mn l m)), none, none], S0⟩, bCons_rt (r := .val .none) ?_⟩
      simp [qe]
  · rw [if_neg hb]
    have hb' : meanB v = false := by simpa using hb
    rw [hb'] at r1
    refine runD_of rfl ⟨⟨[some (.val (mn l0 m0)), some (.val v), none, none], S0⟩, bCons_rt (r := .val formD) ?_⟩
    simp [r1, formD]
end
end Law
end EL
set_option exponentiation.threshold 20000
namespace EL
open PySem PySem.Spec PyProof.Rows L2 R
namespace Law
section
variable {l0 m0 : List Rat} {h0 : Nat} (f0 : Fn 1600 h0 (rw' l0)) (z0 : l0.length ≤ 9) (z1 : m0.length ≤ 9)
variable {h : Nat} {v : D} (f : Fn 1600 h v)
include f0 z0 z1 f
theorem v__law_late_fault : p__law_late_fault [mn l0 m0, v] = some (.val (lateV l0 m0 v)) := by
  unfold lateV
  have rform : ∀ e : EE, meanB v = false → RT (sRet (eTup (aCons (fC (.str "form")) (aNil)))) e (.val (if meanB v = true then lateF l0 m0 (unmean v).1 (unmean v).2 else formD)) := fun e hb => by
    rw [hb, if_neg Bool.false_ne_true]
    exact rRet (vTup (asC vC asN) (show (1 : Nat) ≤ 16777216 by decide))
  by_cases ht : instB "tuple" (tyD v) = true
  · obtain ⟨ds, rfl⟩ := tup_of ht
    by_cases h2 : ds.length = 2
    · obtain ⟨r, e, rfl⟩ := two_of h2
      have fr' : Fn 1600 h r := f.untup.mem (by simp)
      have fe : Fn 1600 h e := f.untup.mem (by simp)
      have r1 := (vi_is_row fr').2
      by_cases hb : rowB r = true
      · by_cases he : instB "tuple" (tyD e) = true
        · obtain ⟨es, rfl⟩ := tup_of he
          rw [hb] at r1
          have hl : es.length ≤ 2000 := by
            have w : PyData.weightAll es ≤ 1600 := fe.w
            have := len_w es
            omega
          have c := flt_look (e := ⟨[some (.val (mn l0 m0)), some (.val (.tuple [r, .tuple es])), none, none, none, none], S0⟩) (i := 4) (I := iSeq (eBin gIx (oVar 1) (oVal (fC (.int 1))))) (ds := es) (f := fracB) (φ := p__law_is_fraction) (fun d hd => v__law_is_fraction (small2_of (fe.untup.mem hd))) hl (by simp) rfl
          have c2 : TT (tOf (eBin lNe (oVal (eComp [4] (iSeq (eBin gIx (oVar 1) (oVal (fC (.int 1))))) (gN 4) (tNot (tOf (eCall p__law_is_fraction (aCons (fVar 4) (aNil))))) (fVar 4))) (oVal (eLst (aNil))))) ⟨[some (.val (mn l0 m0)), some (.val (.tuple [r, .tuple es])), none, none, none, none], S0⟩ (!es.all fracB) := by
            rw [← flt_nil fracB]
            exact tOf' (vBin (oVal' c) (oVal' (vLst asN (by simp))) (lNe_nilL _))
          refine runD_of rfl (rt_cons (nx_skip (e1 := ⟨[some (.val (mn l0 m0)), some (.val (.tuple [r, .tuple es])), none, none, none, none], S0⟩) (by simp [r1, instT, instB, tyD]) ?_))
          by_cases hf : es.all fracB = true
          · rw [hf] at c2
            refine rt_cons (nx_skip c2 ?_)
            obtain ⟨l, rfl, tl⟩ := row_is hb
            obtain ⟨m, rfl⟩ := fracs_are hf
            have f : Fn 1600 h (mn l m) := f
            obtain ⟨f1, f2, f3⟩ := mn_fn f
            obtain ⟨n1, n2, n3, n4, n5⟩ := late_many f0 z0 z1 l m
            have e1 : meanB (.tuple [rw' l, .tuple (m.map fr)]) = decide (Pe l m) := by
              have := meanB_mn l m
              rw [decide_eq_true tl, Bool.true_and] at this
              exact this
            have q0 := lNe_row0 m
            show RT _ ⟨[some (.val (mn l0 m0)), some (.val (mn l m)), none, none, none, none], S0⟩ _
            by_cases hp : Pe l m
            · rw [e1, decide_eq_true hp, if_pos rfl]
              have eu : unmean (.tuple [rw' l, .tuple (m.map fr)]) = (l, m) := unmean_mn l m
              rw [eu]
              dsimp only
              obtain ⟨K, hK⟩ : ∃ K, K = lateN l0 m0 l m := ⟨_, rfl⟩
              have hK2 : K ≤ 420 := by rw [hK]; unfold lateN; omega
              unfold lateF
              rw [← hK] at n5 ⊢
              refine rt_cons (nx_skip (e1 := ⟨[some (.val (mn l0 m0)), some (.val (mn l m)), none, none, none, none], S0⟩) ?_ ?_)
              · unfold mn
                by_cases hm : m = []
                · rw [decide_eq_true hm] at q0
                  simp [q0]
                · rw [decide_eq_false hm] at q0
                  obtain ⟨a1, a2, a3⟩ := at_last f hm
                  have hne : ¬ co m (m.length - 1) = ev l ((m.length - 1 : Nat) : Rat) := by
                    rcases hp with z | z
                    · exact absurd z hm
                    · exact z
                  have q := qEqF (co m (m.length - 1)) (ev l ((m.length - 1 : Nat) : Rat))
                  rw [decide_eq_false hne] at q
                  simp [q0, a1, a3, q, n3]
              refine rt_cons (nx_of (e' := ⟨[some (.val (mn l0 m0)), some (.val (mn l m)), some (.val (.int (K : Int))), none, none, none], S0⟩) (by
                unfold mn
                simp [n1, n2, n3, n4, n5]) ?_)
              have hw : inW ((K : Int) + 1) = true := x_inW (by omega) (by omega)
              have hKt : ((K : Int) + 1).toNat = K + 1 := by omega
              have c := comp_flt (e := ⟨[some (.val (mn l0 m0)), some (.val (mn l m)), some (.val (.int (K : Int))), none, none, none], S0⟩) (e1 := ⟨[some (.val (mn l0 m0)), some (.val (mn l m)), some (.val (.int (K : Int))), none, none, none], S0⟩) (i := 5) (I := iRg1 (oCons (oVal (eBin gAdd (oVar 2) (oVal (fC (.int 1))))) (oNil))) (T := tOf (eBin lNe (oVal (eCall p__law_at (aCons (fVar 1) (aCons (fVar 5) (aNil))))) (oVal (eCall p__law_at (aCons (fVar 0) (aCons (fVar 5) (aNil))))))) (F := fVar 5) (ds := rgL 0 (K + 1))
                (fun d => match d with | .int i => !decide (mat l m i.toNat = mat l0 m0 i.toNat) | _ => false) id (by simp [hw, hKt]) rfl (by rw [rgL_len]; omega) (fun d hd => by
                  obtain ⟨k, hk, rfl⟩ := rgL_mem hd
                  have a1 := v__law_at (m := m) f1 (n := k) (by omega)
                  have a0 := v__law_at (m := m0) f0 (n := k) (by omega)
                  have ne := lNeF (mat l m k) (mat l0 m0 k)
                  simp [a1, a0, ne]) (fun d hd _ => ⟨.val d, by simp, rfl⟩)
              rw [List.map_id] at c
              refine rt_cons (nx_set c (by simp) ?_)
              rcases first_cases (fun n => !decide (mat l m n = mat l0 m0 n)) (K + 1) with ⟨n, e1, e2, e3, e4⟩ | ⟨e1, e2⟩
              · rw [e1]
                obtain ⟨rest, hf⟩ := flt_first (m := fun d : EL.D => match d with | .int i => !decide (mat l m i.toNat = mat l0 m0 i.toNat) | _ => false) (x := .int (n : Int)) (l := rgL 0 (K + 1)) (n := n) (by unfold rgL; simp [e2]) (by simpa using e3) (fun j y hj hy => by
                  obtain ⟨rfl, hj2⟩ := rgL_get hy
                  have := e4 j hj
                  simpa using this)
                rw [hf]
                have n0 := lNe_nilL (.int (n : Int) :: rest)
                have ix0 : gIx (.list (.int (n : Int) :: rest)) (.int 0) = some (.val (.int (n : Int))) := ix_natL (n := 0) rfl
                have a0 := v__law_at (m := m0) f0 (n := n) (by omega)
                refine ⟨⟨[some (.val (mn l0 m0)), some (.val (mn l m)), some (.val (.int (K : Int))), some (.ol (.int (n : Int) :: rest)), none, none], S0⟩, ?_⟩
                simp [n0, ix0, a0]
              · rw [e1]
                have hf : (rgL 0 (K + 1)).filter (fun d : EL.D => match d with | .int i => !decide (mat l m i.toNat = mat l0 m0 i.toNat) | _ => false) = [] := by
                  rw [List.filter_eq_nil_iff]
                  intro d hd
                  obtain ⟨k, hk, rfl⟩ := rgL_mem hd
                  have := e2 k hk
                  simpa using this
                rw [hf]
                have n0 := lNe_nilL []
                refine ⟨⟨[some (.val (mn l0 m0)), some (.val (mn l m)), some (.val (.int (K : Int))), some (.ol []), none, none], S0⟩, ?_⟩
                simp [n0]
            · rw [e1, decide_eq_false hp, if_neg Bool.false_ne_true]
              have hm : m ≠ [] := fun z => hp (.inl z)
              rw [decide_eq_false hm] at q0
              obtain ⟨a1, a2, a3⟩ := at_last f hm
              have heq : co m (m.length - 1) = ev l ((m.length - 1 : Nat) : Rat) := Classical.byContradiction fun z => hp (.inr z)
              have q := qEqF (co m (m.length - 1)) (ev l ((m.length - 1 : Nat) : Rat))
              rw [decide_eq_true heq] at q
              refine ⟨⟨[some (.val (mn l0 m0)), some (.val (mn l m)), none, none, none, none], S0⟩, bCons_rt (r := .val formD) ?_⟩
              unfold mn
              simp [q0, a1, a3, q, n3, formD]
          · have hf : es.all fracB = false := by simpa using hf
            rw [hf] at c2
            have e1 : meanB (.tuple [r, .tuple es]) = false := by
              show (rowB r && (es.all fracB && _)) = false
              rw [hf, Bool.false_and, Bool.and_false]
            exact rIfT c2 rfl (rform _ e1)
        · have he : instB "tuple" (tyD e) = false := by simpa using he
          rw [hb] at r1
          rw [meanB_nt he, if_neg Bool.false_ne_true]
          refine runD_of rfl ⟨⟨[some (.val (mn l0 m0)), some (.val (.tuple [r, e])), none, none, none, none], S0⟩, bCons_rt (r := .val formD) ?_⟩
          simp [r1, instT, he, formD]
      · have hb' : rowB r = false := by simpa using hb
        rw [hb'] at r1
        have e1 : meanB (.tuple [r, e]) = false := by
          unfold meanB
          split
          · rename_i q; injection q with q; injection q with q1 q2; injection q2 with q2 q3; subst q1; rw [hb']; rfl
          · rfl
        rw [e1, if_neg Bool.false_ne_true]
        refine runD_of rfl ⟨⟨[some (.val (mn l0 m0)), some (.val (.tuple [r, e])), none, none, none, none], S0⟩, bCons_rt (r := .val formD) ?_⟩
        simp [r1, instT, instB, tyD, formD]
    · exact runD_of rfl (rIfT (c := true) (tOrF (tNot' (tOf' (vInst (oVar' rfl rfl) rfl))) rfl (tOrT (tOf' (vBin (oVal' (vB (osC (oVar' rfl rfl) osN) (gLen_tup _))) (oVal' vC) (lNe_int _ _))) (by simp; omega))) rfl (rform _ (meanB_len h2)))
  · have hn : instB "tuple" (tyD v) = false := by simpa using ht
    have e : meanB v = false := by cases v <;> first | rfl | exact absurd rfl ht
    exact runD_of rfl (rIfT (tOrT (tNot' (tOf' (vInst (oVar' rfl rfl) rfl))) (by rw [hn]; rfl)) rfl (rform _ e))
end
end Law
end EL
set_option exponentiation.threshold 20000
namespace EL
open PySem PySem.Spec PyProof.Rows L2 R
namespace Law
/-! ### draws -/
theorem atI_of {α : Type} {l : List α} {i : Int} (h0 : 0 ≤ i) (h1 : i < l.length) : ∃ a, L2.atI l i = some a ∧ a ∈ l := by
  unfold L2.atI
  have ix : L2.ixN l.length i = some i.toNat := by unfold L2.ixN; rw [if_pos h0, if_pos h1]
  rw [ix]
  have h2 : i.toNat < l.length := by omega
  exact ⟨l[i.toNat], by simp [h2], List.getElem_mem _⟩
theorem v_of {ds : List D} (h : ds ≠ []) (h2 : ds.length < 1073741824) (S : Src) : ∃ d S', p__law_of [.list ds] S = some (.val d, S') ∧ d ∈ ds := by
  have h1 : 1 ≤ (ds.length : Int) := by have := List.length_pos_iff.mpr h; omega
  obtain ⟨r, S', e, r0, r1⟩ := draw h1 (by omega) S
  obtain ⟨d, e2, m⟩ := atI_of r0 r1
  refine ⟨d, S', ?_, m⟩
  have ix : gIx (.list ds) (.int r) = some (.val d) := by show (L2.atI ds r).bind (fun d => some (Rs.val d)) = _; rw [e2]; rfl
  simp [p__law_of, b__law_of, e, ix]
theorem sz_divInt {p r : Int} (hp : p.natAbs ≤ 7) (hr : r = 1 ∨ r = 2 ∨ r = 3) : Sz 6 42 (Rat.divInt p r) := by
  have c6 : ((6 : Nat) : Rat) = 6 := rfl
  rcases hr with rfl | rfl | rfl
  · refine ⟨6 * p, ?_, by omega⟩
    rw [Rat.divInt_eq_div, Rat.intCast_mul, c6]
    have h1 : ((1 : Int) : Rat) = 1 := rfl
    have h6 : ((6 : Int) : Rat) = 6 := rfl
    rw [h1, h6]; grind
  · refine ⟨3 * p, ?_, by omega⟩
    rw [Rat.divInt_eq_div, Rat.intCast_mul, c6]
    have h1 : ((2 : Int) : Rat) = 2 := rfl
    have h6 : ((3 : Int) : Rat) = 3 := rfl
    rw [h1, h6]; grind
  · refine ⟨2 * p, ?_, by omega⟩
    rw [Rat.divInt_eq_div, Rat.intCast_mul, c6]
    have h1 : ((3 : Int) : Rat) = 3 := rfl
    have h6 : ((2 : Int) : Rat) = 2 := rfl
    rw [h1, h6]; grind
theorem sz_r {p r : Int} (hr : r = 1 ∨ r = 2 ∨ r = 3) : Sz r.natAbs p.natAbs (Rat.divInt p r) := by
  refine ⟨p, ?_, Nat.le_refl _⟩
  rw [Rat.divInt_eq_div]
  rcases hr with rfl | rfl | rfl
  · show (1 : Rat) * ((p : Rat) / 1) = _; grind
  · show (2 : Rat) * ((p : Rat) / 2) = _; grind
  · show (3 : Rat) * ((p : Rat) / 3) = _; grind
theorem v_number (S : Src) : ∃ q S', p__law_number [] S = some (.val (fr q), S') ∧ Sz 6 42 q ∧ q.num.natAbs ≤ 7 ∧ q.den ≤ 3 := by
  obtain ⟨d, S1, e1, m1⟩ := v_of (ds := [.int 1, .int 1, .int (-1), .int 2, .int (-3), .int 5, .int 7]) (by simp) (by simp) S
  obtain ⟨d', S2, e2, m2⟩ := v_of (ds := [.int 1, .int 1, .int 1, .int 2, .int 3]) (by simp) (by simp) S1
  obtain ⟨p, rfl, hp, hp0⟩ : ∃ p : Int, d = .int p ∧ p.natAbs ≤ 7 ∧ p ≠ 0 := by
    simp only [List.mem_cons, List.not_mem_nil, or_false] at m1
    rcases m1 with rfl | rfl | rfl | rfl | rfl | rfl | rfl <;> exact ⟨_, rfl, by decide, by decide⟩
  obtain ⟨r, rfl, hr⟩ : ∃ r : Int, d' = .int r ∧ (r = 1 ∨ r = 2 ∨ r = 3) := by
    simp only [List.mem_cons, List.not_mem_nil, or_false] at m2
    rcases m2 with rfl | rfl | rfl | rfl | rfl <;> exact ⟨_, rfl, by omega⟩
  have p7 : 100 < 2 ^ 9000 := Nat.lt_of_lt_of_le (by decide : 100 < 2 ^ 7) (Nat.pow_le_pow_right (by decide) (by decide))
  have vf := v__law_fraction (p := p) (q := r) (by omega) (Nat.lt_of_le_of_lt (by omega : p.natAbs ≤ 100) p7) (Nat.lt_of_le_of_lt (by omega : r.natAbs ≤ 100) p7)
  have nd := (sz_r (p := p) hr).num (by omega)
  exact ⟨Rat.divInt p r, S2, by simp [p__law_number, b__law_number, e1, e2, vf], sz_divInt hp hr, by omega, by omega⟩

theorem fn_int {j : Int} (h : j.natAbs < 1024) : Fn 10 0 (.int j) := by
  have hl : j.natAbs.log2 < 10 := by
    by_cases z : j.natAbs = 0
    · rw [z]; decide
    · exact (Nat.log2_lt z).mpr h
  refine ⟨?_, ?_, ?_, Nat.le_refl _⟩
  · unfold PyData.showable; exact decide_eq_true (by omega)
  · unfold PyData.leavesShort
    exact decide_eq_true (Nat.le_trans (int_text_len_1921 (i := j) (by omega)) (by decide))
  · unfold PyData.weight
    split <;> omega
theorem v_deep {odd : List D} (ho : odd ≠ []) (hl : odd.length ≤ 100) (hf : ∀ d ∈ odd, Fn 101 3 d) (S : Src) : ∃ r S', p__law_deep [.list odd] S = some (r, S') ∧ Fn 200 40 r.d ∧ (r = .val r.d ∨ ∃ ds, r = .fl ds) := by
  obtain ⟨d0, S1, e1, m1⟩ := v_of ho (by omega) S
  obtain ⟨e', q1, x, y, d, S2, rfl, hx, hd⟩ := forL_inv (g := gN 3) (B := sSet 2 (eIf (tOf (eBin qEq (oVal (eCallS 0 gPick (aCons (fC (.int 5)) (aNil)))) (oVal (fC (.int 0))))) (eLst (aCons (fVar 2) (aNil))) (eTup (aCons (fVar 2) (aNil)))))
    (fun rem e => ∃ x y d S, e = ⟨[some .src, some (.val (.list odd)), some x, y], S⟩ ∧ (x = .val d ∨ ∃ ds, x = .ol ds ∧ d = .list ds) ∧ Fn (135 - rem.length) (37 - rem.length) d ∧ rem.length ≤ 34)
    (rgL 0 34) ⟨[some .src, some (.val (.list odd)), some (.val d0), none], S1⟩ ⟨.val d0, none, d0, S1, rfl, .inl rfl, (hf d0 m1).le (by simp [rgL]) (by simp [rgL]), by simp [rgL]⟩ (by
      rintro t rem e ⟨x, y, d, S, rfl, hx, hd, hr⟩
      simp only [List.length_cons] at hd hr
      refine ⟨⟨[some .src, some (.val (.list odd)), some x, some (.val t)], S⟩, by simp [gN, EE.put], ?_⟩
      obtain ⟨r, S', e2, _, _⟩ := draw (m := 5) (by decide) (by decide) S
      have fv : ∀ S, ∃ z, fVar 2 ⟨[some .src, some (.val (.list odd)), some x, some (.val t)], S⟩ = some (.val d, ⟨[some .src, some (.val (.list odd)), some z, some (.val t)], S⟩) := fun S => by
        rcases hx with rfl | ⟨ds, rfl, rfl⟩
        · exact ⟨_, rfl⟩
        · exact ⟨_, rfl⟩
      obtain ⟨z, fz⟩ := fv S'
      have s1 : small 1 = true := small_le (by decide)
      have one : FnA (101 + 35 - rem.length - 1 + 0) (36 - rem.length) [d] := by
        refine FnA.le (FnA.cons hd (FnA.nil.le (Nat.le_refl _) (Nat.zero_le _))) (by omega) (by omega)
      have ts : tOf (eBin qEq (oVal (eCallS 0 gPick (aCons (fC (.int 5)) (aNil)))) (oVal (fC (.int 0)))) ⟨[some .src, some (.val (.list odd)), some x, some (.val t)], S⟩ = some (decide (r = 0), ⟨[some .src, some (.val (.list odd)), some x, some (.val t)], S'⟩) := by
        simp [tOf, eBin, oVal, eCallS, aCons, aNil, fC, Rs.d, e2, qEq_int]; rfl
      by_cases h0 : r = 0
      · refine ⟨⟨[some .src, some (.val (.list odd)), some (.ol [d]), some (.val t)], S'⟩, ?_, .ol [d], some (.val t), .list [d], S', rfl, .inr ⟨[d], rfl, rfl⟩, one.lst.le (by omega) (by omega), by omega⟩
        unfold sSet eIf
        rw [ts, Option.bind_some]
        dsimp only
        rw [decide_eq_true h0, if_pos rfl]
        rcases hx with rfl | ⟨ds, rfl, rfl⟩ <;> simp [s1]
      · refine ⟨⟨[some .src, some (.val (.list odd)), some (.val (.tuple [d])), some (.val t)], S'⟩, ?_, .val (.tuple [d]), some (.val t), .tuple [d], S', rfl, .inl rfl, one.tup.le (by omega) (by omega), by omega⟩
        unfold sSet eIf
        rw [ts, Option.bind_some]
        dsimp only
        rw [decide_eq_false h0, if_neg Bool.false_ne_true]
        rcases hx with rfl | ⟨ds, rfl, rfl⟩ <;> simp [s1])
  have hw : inW 34 = true := x_inW (by decide) (by decide)
  have fin : ∀ r : Rs, sRetV 2 ⟨[some .src, some (.val (.list odd)), some x, y], S2⟩ = some (.rt r, ⟨[some .src, some (.val (.list odd)), none, y], S2⟩) → p__law_deep [.list odd] S = some (r, S2) := fun r hr => by
    unfold p__law_deep b__law_deep
    show runS 2 4 (bCons _ _) _ _ = _
    unfold runS
    rw [if_pos (by rfl)]
    rw [bCons_nx (e1 := ⟨[some .src, some (.val (.list odd)), some (.val d0), none], S1⟩) (by simp [sSet, eCallS, aCons, aNil, fVar, Rs.d, e1, Rs.ent, EE.put, args, List.replicate])]
    rw [bCons_nx (e1 := ⟨[some .src, some (.val (.list odd)), some x, y], S2⟩) (by
      unfold sFor
      have : iRg1 (oCons (oVal (fC (.int 34))) oNil) ⟨[some .src, some (.val (.list odd)), some (.val d0), none], S1⟩ = some (rgL 0 34, ⟨[some .src, some (.val (.list odd)), some (.val d0), none], S1⟩) := by
        simp [iRg1, oCons, oVal, fC, oNil, Rs.d, hw]
      rw [this, Option.bind_some]
      exact q1)]
    rw [hr]
    rfl
  have hd' : Fn 200 40 d := hd.1.le (by simp) (by simp)
  rcases hx with rfl | ⟨ds, rfl, rfl⟩
  · exact ⟨.val d, S2, fin _ rfl, hd', .inl rfl⟩
  · exact ⟨.fl ds, S2, fin _ rfl, hd', .inr ⟨ds, rfl⟩⟩

/-- trees of small ints and tuples -/
def Tl : Nat → D → Prop
  | 0, d => ∃ i : Int, i.natAbs < 1000 ∧ d = .int i
  | k + 1, d => (∃ i : Int, i.natAbs < 1000 ∧ d = .int i) ∨ ∃ ds, d = .tuple ds ∧ ds.length ≤ 100 ∧ ∀ x ∈ ds, Tl k x
theorem Tl.split {k : Nat} {d : D} (h : Tl k d) : (∃ i : Int, i.natAbs < 1000 ∧ d = .int i) ∨ ∃ ds, d = .tuple ds ∧ ds.length ≤ 100 ∧ ∃ j, k = j + 1 ∧ ∀ x ∈ ds, Tl j x := by
  cases k with
  | zero => exact .inl h
  | succ k =>
    rcases h with h | ⟨ds, h1, h2, h3⟩
    · exact .inl h
    · exact .inr ⟨ds, h1, h2, k, rfl, h3⟩
theorem canAll {ds : List D} (h : ∀ x ∈ ds, x.canLay0 = true) : PyData.canLayAll0 ds = true := by
  induction ds with
  | nil => rfl
  | cons d ds ih => simp [PyData.canLayAll0, h d List.mem_cons_self, ih fun x hx => h x (List.mem_cons_of_mem _ hx)]
theorem Tl.can : ∀ {k : Nat} {d : D}, Tl k d → d.canLay0 = true
  | 0, d, ⟨i, _, e⟩ => by rw [e]; rfl
  | k + 1, d, .inl ⟨i, _, e⟩ => by rw [e]; rfl
  | k + 1, d, .inr ⟨ds, e, _, h⟩ => by
    rw [e]
    show PyData.canLayAll0 ds = true
    exact canAll fun x hx => Tl.can (h x hx)
theorem qEq_nil {ds : List D} (h : SeqAt.shaped (.tuple ds) = true) : qEq (.tuple ds) (.tuple []) = some (.val (.bool ds.isEmpty)) := by
  show gEq (.tuple ds) (.tuple []) = _
  unfold gEq
  rw [h, if_pos (by rfl)]
  cases ds with
  | nil => rfl
  | cons d ds => rfl
theorem cut_len (ds : List D) (lo hi : Option Int) : (cutD ds lo hi).length ≤ ds.length := by
  unfold cutD
  rw [List.length_take, List.length_drop]; omega
theorem fn_le {N h : Nat} {d : D} (k : Nat) (x : Fn 200 32 d) : Fn ((k + 1) * (2 * N + 200)) (32 + k) d := x.le (by rw [Nat.succ_mul]; omega) (by omega)
section
variable {odd : List D} (ho : odd ≠ []) (hl : odd.length ≤ 100) (hf : ∀ d ∈ odd, Fn 101 3 d)
include ho hl hf
theorem bt_int {φ : List D → Src → Option (Rs × Src)} {i : Int} (hi : i.natAbs < 1000) (S : Src) : ∃ d S', runS 3 5 (b__law_bent φ) [.int i, .list odd] S = some (.val d, S') ∧ Fn 200 32 d := by
  obtain ⟨r, S1, e1, r0, r1⟩ := draw (m := 3) (by decide) (by decide) S
  have t1 : tAnd (tOf (eInst (oVar 1) "int")) (tAnd (tNot (tOf (eInst (oVar 1) "bool"))) (tOf (eBin gGt (oVal (eCallS 0 gPick (aCons (fC (.int 3)) (aNil)))) (oVal (fC (.int 0)))))) ⟨[some .src, some (.val (.int i)), some (.val (.list odd)), none, none], S⟩ = some (decide (0 < r), ⟨[some .src, some (.val (.int i)), some (.val (.list odd)), none, none], S1⟩) := by
    simp [tAnd, tOf, eInst, oVar, rd, Ent.d, instT, instB, tyD, tNot, eBin, oVal, eCallS, aCons, aNil, fC, Rs.d, e1, gGt]
  have go : ∀ q, b__law_bent φ ⟨[some .src, some (.val (.int i)), some (.val (.list odd)), none, none], S⟩ = some (.rt q.1, ⟨[some .src, some (.val (.int i)), some (.val (.list odd)), none, none], q.2⟩) → runS 3 5 (b__law_bent φ) [.int i, .list odd] S = some q := fun q h => by
    unfold runS
    rw [if_pos (by rfl)]
    show ((b__law_bent φ ⟨[some .src, some (.val (.int i)), some (.val (.list odd)), none, none], S⟩).bind _) = _
    rw [h]; rfl
  by_cases h0 : 0 < r
  · obtain ⟨d, S2, e2, m2⟩ := v_of (ds := [.int 1, .int (-1), .int 2]) (by simp) (by decide) S1
    obtain ⟨c, rfl, hc⟩ : ∃ c : Int, d = .int c ∧ c.natAbs ≤ 2 := by
      simp only [List.mem_cons, List.mem_nil_iff, or_false] at m2
      rcases m2 with rfl | rfl | rfl
      · exact ⟨1, rfl, by decide⟩
      · exact ⟨-1, rfl, by decide⟩
      · exact ⟨2, rfl, by decide⟩
    refine ⟨.int (i + c), S2, go (.val (.int (i + c)), S2) ?_, (fn_int (by omega)).le (by omega) (by omega)⟩
    unfold b__law_bent
    rw [bCons_rt (r := .val (.int (i + c))) (e1 := ⟨[some .src, some (.val (.int i)), some (.val (.list odd)), none, none], S2⟩)]
    unfold sIf
    rw [t1, Option.bind_some]
    dsimp only
    rw [decide_eq_true h0, if_pos rfl]
    simp [sRet, eBin, oVar, rd, Ent.d, oVal, eCallS, aCons, aNil, eLst, fC, eUn, gNeg, Rs.d, small_le, e2, gAdd]
  · obtain ⟨d, S2, e2, m2⟩ := v_of ho (by omega) S1
    refine ⟨d, S2, go (.val d, S2) ?_, (hf d m2).le (by omega) (by omega)⟩
    unfold b__law_bent
    rw [bCons_nx (e1 := ⟨[some .src, some (.val (.int i)), some (.val (.list odd)), none, none], S1⟩) (by
      unfold sIf
      rw [t1, Option.bind_some]
      dsimp only
      rw [decide_eq_false h0, if_neg Bool.false_ne_true]
      rfl)]
    rw [bCons_rt (r := .val d) (e1 := ⟨[some .src, some (.val (.int i)), some (.val (.list odd)), none, none], S2⟩)]
    simp [sIf, tOr, tNot, tOf, eInst, oVar, rd, Ent.d, instT, instB, tyD, sRet, eCallS, aCons, aNil, fVar, Rs.d, e2]
theorem bt_tup {φ : List D → Src → Option (Rs × Src)} {ds : List D} {N M : Nat} (hN : N ≤ 1000) (hd : ds.length ≤ 100) (hs : SeqAt.shaped (.tuple ds) = true) (hn : FnA N 30 ds) (h : Nat) (h30 : 31 ≤ h)
    (ih : ∀ x ∈ ds, ∀ S, ∃ d S', φ [x, .list odd] S = some (.val d, S') ∧ Fn M h d) (S : Src) : ∃ d S', runS 3 5 (b__law_bent φ) [.tuple ds, .list odd] S = some (.val d, S') ∧ Fn (M + 2 * N + 200) (h + 1) d := by
  have go : ∀ q x y, b__law_bent φ ⟨[some .src, some (.val (.tuple ds)), some (.val (.list odd)), none, none], S⟩ = some (.rt q.1, ⟨[some .src, some (.val (.tuple ds)), some (.val (.list odd)), x, y], q.2⟩) → runS 3 5 (b__law_bent φ) [.tuple ds, .list odd] S = some q := fun q x y h => by
    unfold runS
    rw [if_pos (by rfl)]
    show ((b__law_bent φ ⟨[some .src, some (.val (.tuple ds)), some (.val (.list odd)), none, none], S⟩).bind _) = _
    rw [h]; rfl
  have first : ∀ B : FS, bCons (sIf (tAnd (tOf (eInst (oVar 1) "int")) (tAnd (tNot (tOf (eInst (oVar 1) "bool"))) (tOf (eBin gGt (oVal (eCallS 0 gPick (aCons (fC (.int 3)) (aNil)))) (oVal (fC (.int 0))))))) (sRet (eBin gAdd (oVar 1) (oVal (eCallS 0 p__law_of (aCons (eLst (aCons (fC (.int 1)) (aCons (eUn gNeg (oVal (fC (.int 1)))) (aCons (fC (.int 2)) (aNil))))) (aNil)))))) (sNx)) B ⟨[some .src, some (.val (.tuple ds)), some (.val (.list odd)), none, none], S⟩ = B ⟨[some .src, some (.val (.tuple ds)), some (.val (.list odd)), none, none], S⟩ := fun B => by
    rw [bCons_nx (e1 := ⟨[some .src, some (.val (.tuple ds)), some (.val (.list odd)), none, none], S⟩)]
    simp [sIf, tAnd, tOf, eInst, oVar, rd, Ent.d, instT, instB, tyD, sNx]
  have wOdd : ∀ d, Fn 101 3 d → Fn (M + 2 * N + 200) (h + 1) d := fun d x => x.le (by omega) (by omega)
  obtain ⟨r7, S1, e7, _, _⟩ := draw (m := 7) (by decide) (by decide) S
  by_cases hz : ds = []
  · subst hz
    obtain ⟨d, S2, e2, m2⟩ := v_of ho (by omega) S
    refine ⟨d, S2, go (.val d, S2) none none ?_, wOdd d (hf d m2)⟩
    unfold b__law_bent
    rw [first]
    rw [bCons_rt (r := .val d) (e1 := ⟨[some .src, some (.val (.tuple [])), some (.val (.list odd)), none, none], S2⟩)]
    simp [sIf, tOr, tNot, tOf, eInst, oVar, rd, Ent.d, instT, instB, tyD, eBin, oVal, eTup, aNil, small_le, Rs.d, qEq_nil hs, sRet, eCallS, aCons, fVar, e2]
  have hemp : ds.isEmpty = false := by cases ds with
    | nil => exact absurd rfl hz
    | cons _ _ => rfl
  have t2 : tOr (tNot (tOf (eInst (oVar 1) "tuple"))) (tOr (tOf (eBin qEq (oVar 1) (oVal (eTup (aNil))))) (tOf (eBin qEq (oVal (eCallS 0 gPick (aCons (fC (.int 7)) (aNil)))) (oVal (fC (.int 0)))))) ⟨[some .src, some (.val (.tuple ds)), some (.val (.list odd)), none, none], S⟩ = some (decide (r7 = 0), ⟨[some .src, some (.val (.tuple ds)), some (.val (.list odd)), none, none], S1⟩) := by
    simp [tOr, tNot, tOf, eInst, oVar, rd, Ent.d, instT, instB, tyD, eBin, oVal, eTup, aNil, small_le, Rs.d, qEq_nil hs, hemp, eCallS, aCons, fC, e7, qEq_int]; rfl
  by_cases h7 : r7 = 0
  · obtain ⟨d, S2, e2, m2⟩ := v_of ho (by omega) S1
    refine ⟨d, S2, go (.val d, S2) none none ?_, wOdd d (hf d m2)⟩
    unfold b__law_bent
    rw [first]
    rw [bCons_rt (r := .val d) (e1 := ⟨[some .src, some (.val (.tuple ds)), some (.val (.list odd)), none, none], S2⟩)]
    unfold sIf
    rw [t2, Option.bind_some]
    dsimp only
    rw [decide_eq_true h7, if_pos rfl]
    simp [sRet, eCallS, aCons, aNil, fVar, Rs.d, e2]
  have hpos : 0 < ds.length := List.length_pos_iff.mpr hz
  obtain ⟨r, S2, e2, r0, r1⟩ := draw (m := (ds.length : Int)) (by omega) (by omega) S1
  obtain ⟨w, S3, e3, w0, w1⟩ := draw (m := 8) (by decide) (by decide) S2
  obtain ⟨x, ex, mx⟩ := atI_of (l := ds) r0 r1
  have second : ∀ B : FS, bCons (sIf (tOr (tNot (tOf (eInst (oVar 1) "tuple"))) (tOr (tOf (eBin qEq (oVar 1) (oVal (eTup (aNil))))) (tOf (eBin qEq (oVal (eCallS 0 gPick (aCons (fC (.int 7)) (aNil)))) (oVal (fC (.int 0))))))) (sRet (eCallS 0 p__law_of (aCons (fVar 2) (aNil)))) (sNx))
      (bCons (sPar [3, 4] (rCons (eCallS 0 gPick (aCons (eB gLenD (oCons (oVar 1) (oNil))) (aNil))) (rCons (eCallS 0 gPick (aCons (fC (.int 8)) (aNil))) (rNil)))) B) ⟨[some .src, some (.val (.tuple ds)), some (.val (.list odd)), none, none], S⟩ = B ⟨[some .src, some (.val (.tuple ds)), some (.val (.list odd)), some (.val (.int r)), some (.val (.int w))], S3⟩ := fun B => by
    rw [bCons_nx (e1 := ⟨[some .src, some (.val (.tuple ds)), some (.val (.list odd)), none, none], S1⟩) (by
      unfold sIf
      rw [t2, Option.bind_some]
      dsimp only
      rw [decide_eq_false h7, if_neg Bool.false_ne_true]
      rfl)]
    rw [bCons_nx (e1 := ⟨[some .src, some (.val (.tuple ds)), some (.val (.list odd)), some (.val (.int r)), some (.val (.int w))], S3⟩)]
    simp [sPar, rCons, rNil, eCallS, aCons, aNil, eB, oCons, oNil, oVar, rd, Ent.d, gLenD, Rs.d, e2, fC, e3, storeL, Rs.ent, EE.put]
  have c1 := fun lo hi => cut_len ds lo hi
  have third : tOf (eBin gLt (oVar 4) (oVal (fC (.int 5)))) ⟨[some .src, some (.val (.tuple ds)), some (.val (.list odd)), some (.val (.int r)), some (.val (.int w))], S3⟩ = some (decide (w < 5), ⟨[some .src, some (.val (.tuple ds)), some (.val (.list odd)), some (.val (.int r)), some (.val (.int w))], S3⟩) := by
    simp [tOf, eBin, oVar, rd, Ent.d, oVal, fC, Rs.d, gLt]
  by_cases h5 : w < 5
  · obtain ⟨d, S4, e4, fd⟩ := ih x mx S3
    refine ⟨.tuple (cutD ds none (some r) ++ [d] ++ cutD ds (some (r + 1)) none), S4, go (.val (.tuple (cutD ds none (some r) ++ [d] ++ cutD ds (some (r + 1)) none)), S4) (some (.val (.int r))) (some (.val (.int w))) ?_, ?_⟩
    · unfold b__law_bent
      rw [first, second]
      rw [bCons_rt (r := .val (.tuple (cutD ds none (some r) ++ [d] ++ cutD ds (some (r + 1)) none))) (e1 := ⟨[some .src, some (.val (.tuple ds)), some (.val (.list odd)), some (.val (.int r)), some (.val (.int w))], S4⟩)]
      unfold sIf
      rw [third, Option.bind_some]
      dsimp only
      rw [decide_eq_true h5, if_pos rfl]
      have s1 : small ((cutD ds none (some r)).length + 1) = true := small_le (by have := c1 none (some r); omega)
      have s2 : small ((cutD ds none (some r)).length + 1 + (cutD ds (some (r + 1)) none).length) = true := small_le (by have := c1 none (some r); have := c1 (some (r + 1)) none; omega)
      simp [sRet, eBin, oVal, eSl, oVar, pNo, pIn, rd, Ent.d, fVar, gSl, Rs.d, eTup, aCons, aNil, eCallS, gIx, ex, e4, small_le, gAdd, s1, s2, fC]
    · have a1 := hn.cut none (some r)
      have a2 := hn.cut (some (r + 1)) none
      have b1 := (a1.le (Nat.le_refl _) (show 30 ≤ h by omega)).app (FnA.cons fd (FnA.nil.le (Nat.le_refl _) (Nat.zero_le _)))
      exact (b1.app (a2.le (Nat.le_refl _) (show 30 ≤ h by omega))).tup.le (by omega) (by omega)
  · have hw : w = 5 ∨ w = 6 ∨ w = 7 := by omega
    have s1 : small ((cutD ds none (some r)).length + (cutD ds (some (r + 1)) none).length) = true := small_le (by have := c1 none (some r); have := c1 (some (r + 1)) none; omega)
    have s2 : small ((cutD ds none (some (r + 1))).length + (cutD ds (some r) none).length) = true := small_le (by have := c1 none (some (r + 1)); have := c1 (some r) none; omega)
    have val : eLst (aCons (eBin gAdd (oVal (eSl (oVar 1) (pNo) (pIn (fVar 3)))) (oVal (eSl (oVar 1) (pIn (eBin gAdd (oVar 3) (oVal (fC (.int 1))))) (pNo)))) (aCons (eBin gAdd (oVal (eSl (oVar 1) (pNo) (pIn (eBin gAdd (oVar 3) (oVal (fC (.int 1))))))) (oVal (eSl (oVar 1) (pIn (fVar 3)) (pNo)))) (aCons (eB gList (oCons (oVar 1) (oNil))) (aNil)))) ⟨[some .src, some (.val (.tuple ds)), some (.val (.list odd)), some (.val (.int r)), some (.val (.int w))], S3⟩ =
        some (.fl [.tuple (cutD ds none (some r) ++ cutD ds (some (r + 1)) none), .tuple (cutD ds none (some (r + 1)) ++ cutD ds (some r) none), .list ds], ⟨[some .src, some (.val (.tuple ds)), some (.val (.list odd)), some (.val (.int r)), some (.val (.int w))], S3⟩) := by
      simp [eLst, aCons, aNil, eBin, oVal, eSl, oVar, pNo, pIn, rd, Ent.d, fVar, gSl, Rs.d, gAdd, s1, s2, fC, eB, gList, oCons, oNil, small_le]
    have fin : ∀ d, gIx (.list [.tuple (cutD ds none (some r) ++ cutD ds (some (r + 1)) none), .tuple (cutD ds none (some (r + 1)) ++ cutD ds (some r) none), .list ds]) (.int (w - 5)) = some (.val d) → Fn (M + 2 * N + 200) (h + 1) d → ∃ d S', runS 3 5 (b__law_bent φ) [.tuple ds, .list odd] S = some (.val d, S') ∧ Fn (M + 2 * N + 200) (h + 1) d := fun d hd fd => by
      refine ⟨d, S3, go (.val d, S3) (some (.val (.int r))) (some (.val (.int w))) ?_, fd⟩
      unfold b__law_bent
      rw [first, second]
      rw [bCons_nx (e1 := ⟨[some .src, some (.val (.tuple ds)), some (.val (.list odd)), some (.val (.int r)), some (.val (.int w))], S3⟩) (by
        unfold sIf
        rw [third, Option.bind_some]
        dsimp only
        rw [decide_eq_false h5, if_neg Bool.false_ne_true]
        rfl)]
      unfold sRet
      show ((eBin gIx (oVal (eLst _)) _ _).bind _) = _
      have : eBin gIx (oVal (eLst (aCons (eBin gAdd (oVal (eSl (oVar 1) (pNo) (pIn (fVar 3)))) (oVal (eSl (oVar 1) (pIn (eBin gAdd (oVar 3) (oVal (fC (.int 1))))) (pNo)))) (aCons (eBin gAdd (oVal (eSl (oVar 1) (pNo) (pIn (eBin gAdd (oVar 3) (oVal (fC (.int 1))))))) (oVal (eSl (oVar 1) (pIn (fVar 3)) (pNo)))) (aCons (eB gList (oCons (oVar 1) (oNil))) (aNil)))))) (oVal (eBin gSub (oVar 4) (oVal (fC (.int 5))))) ⟨[some .src, some (.val (.tuple ds)), some (.val (.list odd)), some (.val (.int r)), some (.val (.int w))], S3⟩ = some (.val d, ⟨[some .src, some (.val (.tuple ds)), some (.val (.list odd)), some (.val (.int r)), some (.val (.int w))], S3⟩) := by
        rw [eBin, oVal, val]
        simp [oVal, eBin, oVar, rd, Ent.d, fC, Rs.d, gSub, hd]
      rw [this]; rfl
    have a := fun lo hi => (hn.cut lo hi).le (Nat.le_refl N) (show 30 ≤ h by omega)
    rcases hw with rfl | rfl | rfl
    · exact fin _ (by rfl) (((a none (some r)).app (a (some (r + 1)) none)).tup.le (by omega) (by omega))
    · exact fin _ (by rfl) (((a none (some (r + 1))).app (a (some r) none)).tup.le (by omega) (by omega))
    · exact fin _ (by rfl) (hn.lst.le (by omega) (by omega))
theorem v_bent {N : Nat} (hN : N ≤ 1000) : ∀ (k fuel : Nat), k < fuel → ∀ (v : D), Tl k v → Fn N 30 v → ∀ S : Src,
    ∃ d S', p__law_bent fuel [v, .list odd] S = some (.val d, S') ∧ Fn ((k + 1) * (2 * N + 200)) (32 + k) d := by
  intro k
  induction k with
  | zero =>
    intro fuel hk v hv hn S
    obtain ⟨m, rfl⟩ : ∃ m, fuel = m + 1 := ⟨fuel - 1, by omega⟩
    obtain ⟨i, hi, rfl⟩ := hv
    obtain ⟨d, S', e, f⟩ := bt_int ho hl hf (φ := p__law_bent m) hi S
    exact ⟨d, S', e, f.le (by omega) (by omega)⟩
  | succ k ih =>
    intro fuel hk v hv hn S
    obtain ⟨m, rfl⟩ : ∃ m, fuel = m + 1 := ⟨fuel - 1, by omega⟩
    rcases hv with ⟨i, hi, rfl⟩ | ⟨ds, rfl, h2, h3⟩
    · obtain ⟨d, S', e, f⟩ := bt_int ho hl hf (φ := p__law_bent m) hi S
      exact ⟨d, S', e, f.le (by rw [Nat.succ_mul]; omega) (by omega)⟩
    · have hs : SeqAt.shaped (.tuple ds) = true := by
        unfold SeqAt.shaped
        rw [Bool.and_eq_true]
        refine ⟨canAll fun x hx => (h3 x hx).can, decide_eq_true ?_⟩
        have := hn.d; omega
      obtain ⟨d, S', e, f⟩ := bt_tup ho hl hf (φ := p__law_bent m) hN h2 hs hn.untup (32 + k) (by omega) (fun x hx S => ih m (by omega) x (h3 x hx) ((hn.untup.mem hx)) S) S
      exact ⟨d, S', e, f.le (by rw [Nat.succ_mul (k + 1)]; omega) (by omega)⟩
end

end Law
end EL
set_option exponentiation.threshold 20000
namespace EL
open PySem PySem.Spec PyProof.Rows L2 R
namespace Law
theorem repr_of {d : D} (x : Fn 8000 180 d) : gRepr [d] = some (.val (.str d.shown)) := repr_ok (Fn.ok x)
/-! ### odd things -/
def odds : List D := [.none, .bool true, .bool false, .int 0, .int 1, .str "", .tuple [], .tuple [.tuple [.int 0, .int 1]], .tuple [.tuple [.int 1, .int 1]], .tuple [.tuple [.int 2, .int 2]], .tuple [.tuple [.int 1, .int 0]], .tuple [.tuple [.bool true, .int 1]], .list [], .dict [], .tuple [.int 1, .int 2],
  .tuple [.tuple [], .tuple []], .tuple [.tuple [], .tuple [.tuple [.int 1, .int 1]]], .tuple [.tuple [.tuple [.int 1, .int 1]], .tuple []], .tuple [.tuple [], .tuple [.tuple [.int 0, .int 1]]], .int (10 ^ 30), .tuple [.list [], .tuple []]]
theorem fn_big : Fn 101 3 (.int (10 ^ 30)) := by
  have hl : ((10 : Int) ^ 30).natAbs.log2 = 99 := by decide +kernel
  refine ⟨?_, ?_, ?_, Nat.zero_le _⟩
  · unfold PyData.showable; exact decide_eq_true (by rw [hl]; decide)
  · unfold PyData.leavesShort
    exact decide_eq_true (Nat.le_trans (int_text_len_1921 (by rw [hl]; decide)) (by decide))
  · unfold PyData.weight
    split
    · exact Nat.zero_le _
    · rw [hl]; decide
theorem odds_ok : ∀ d ∈ odds, Fn 101 3 d := by
  intro d hd
  simp only [odds, List.mem_cons, List.not_mem_nil, or_false] at hd
  rcases hd with rfl | rfl | rfl | rfl | rfl | rfl | rfl | rfl | rfl | rfl | rfl | rfl | rfl | rfl | rfl | rfl | rfl | rfl | rfl | rfl | rfl <;> first | exact fn_of (by decide +kernel) | exact fn_big
theorem odds_len : odds.length = 21 := rfl
/-! ### how great rows, means are -/
theorem fn_intA {j : Int} {a : Nat} (h : j.natAbs < 2 ^ a) (ha : a ≤ 10) : Fn a 0 (.int j) := by
  have h10 : (2 : Nat) ^ a ≤ 1024 := Nat.pow_le_pow_right (n := 2) (by decide) ha
  have f := fn_int (j := j) (by omega)
  refine ⟨f.s, f.l, ?_, f.d⟩
  unfold PyData.weight
  split
  · omega
  · rename_i z
    have z : j ≠ 0 := by simpa using z
    have : j.natAbs.log2 < a := (Nat.log2_lt (by omega)).mpr h
    omega
theorem fn_fr {q : Rat} {a b : Nat} (hn : q.num.natAbs < 2 ^ a) (hd : q.den < 2 ^ b) (ha : a ≤ 10) (hb : b ≤ 10) : Fn (a + b + 2) 1 (fr q) := by
  have h1 := fn_intA hn ha
  have h2 := fn_intA (j := (q.den : Int)) (a := b) (by omega) hb
  exact (FnA.cons h1 (FnA.cons h2 (FnA.nil.le (Nat.le_refl _) (Nat.zero_le _)))).tup.le (by omega) (Nat.le_refl _)
theorem fn_rows {l : List Rat} {a b n : Nat} (h : ∀ x ∈ l, x.num.natAbs < 2 ^ a ∧ x.den < 2 ^ b) (ha : a ≤ 10) (hb : b ≤ 10) (hl : l.length ≤ n) : FnA (n * (a + b + 3)) 1 (l.map fr) := by
  refine (FnA.all (N := a + b + 2) fun d hd => ?_).le ?_ (Nat.le_refl _)
  · obtain ⟨x, hx, rfl⟩ := List.mem_map.mp hd
    exact fn_fr (h x hx).1 (h x hx).2 ha hb
  · rw [List.length_map]; exact Nat.mul_le_mul_right _ hl
/-- drawn fractions -/
structure Wd (ws : List Rat) : Prop where
  n : ws.length ≤ 4
  c : ∀ x ∈ ws, Sz 6 42 x ∧ x.num.natAbs ≤ 7 ∧ x.den ≤ 3
theorem six_big : (6 : Nat) < BIG := by have := nb_big; omega
theorem m42 : 1024 * 42 < BIG := Nat.lt_of_le_of_lt (by decide : 1024 * 42 ≤ 2 ^ 16) (Nat.pow_lt_pow_right (by decide) (by decide))
theorem co_sz {D M : Nat} {l : List Rat} (h : ∀ x ∈ l, Sz D M x) (k : Nat) : Sz D M (co l k) := by
  by_cases q : k < l.length
  · exact h _ (co_mem q)
  · rw [co_out (by omega)]; exact Sz.zero.mono (Nat.zero_le _)
section
variable {ws : List Rat} (W : Wd ws)
include W
theorem Wd.co (k : Nat) : Sz 6 42 (co ws k) := co_sz (fun x hx => (W.c x hx).1) k
theorem Wd.fn : FnA 32 1 (ws.map fr) := fn_rows (a := 3) (b := 2) (n := 4) (fun x hx => by have := (W.c x hx).2; exact ⟨by omega, by omega⟩) (by decide) (by decide) W.n
theorem Wd.due_len : (trim (thr ws)).length ≤ 4 := by
  have := trimN_le (thr ws) (thr ws).length
  have := W.n
  rw [trim_len]; rw [thr_len] at *; omega
theorem Wd.due_c : ∀ x ∈ trim (thr ws), x.num.natAbs ≤ 336 ∧ x.den ≤ 6 := fun x hx => by
  obtain ⟨k, hk, rfl⟩ := mem_co (trim_mem hx)
  rw [thr_len] at hk
  rw [co_thr, if_pos hk]
  have := df_sz (w := EL.R.co ws) W.co k 0
  have h4 := W.n
  have := (this.mono (Nat.mul_le_mul_right 42 (Nat.pow_le_pow_right (n := 2) (by decide) (by omega : k ≤ 3)))).num (by decide)
  exact this
theorem Wd.due_fn : FnA 60 1 ((trim (thr ws)).map fr) := fn_rows (a := 9) (b := 3) (n := 4) (fun x hx => by have := W.due_c x hx; exact ⟨by omega, by omega⟩) (by decide) (by decide) W.due_len
theorem Wd.due_row : Fn 60 2 (rw' (trim (thr ws))) := W.due_fn.tup
theorem Wd.thr1 : p__law_through [.list (ws.map fr)] = some (.val (rw' (trim (thr ws)))) := v__law_through (D := 6) (M := 42) (by decide) six_big (by have := W.n; omega) W.co m42 rfl
theorem Wd.thr2 : p_row_through [.tuple (ws.map fr)] = some (.val (rw' (trim (thr ws)))) := v_row_through (D := 6) (M := 42) (by decide) six_big (by have := W.n; omega) W.co m42 (.inr rfl)
end
theorem cut_sub {l m : List Rat} : ∀ x ∈ cutE l m, x ∈ m := fun x hx => List.mem_of_mem_take hx
theorem Wd.cut {l m : List Rat} (h : Wd m) : Wd (cutE l m) := by
  refine ⟨?_, fun x hx => h.c x (cut_sub x hx)⟩
  have := h.n
  unfold cutE
  rw [List.length_take]; omega
/-- trees of small ints -/
theorem tl_fr {q : Rat} (h : q.num.natAbs ≤ 336 ∧ q.den ≤ 6) : Tl 1 (fr q) := by
  refine .inr ⟨_, rfl, by simp, fun x hx => ?_⟩
  simp only [List.mem_cons, List.not_mem_nil, or_false] at hx
  rcases hx with rfl | rfl
  · exact ⟨_, by omega, rfl⟩
  · exact ⟨_, by omega, rfl⟩
theorem tl_row {l : List Rat} (hl : l.length ≤ 4) (h : ∀ x ∈ l, x.num.natAbs ≤ 336 ∧ x.den ≤ 6) : Tl 2 (rw' l) := by
  refine .inr ⟨_, rfl, by rw [List.length_map]; omega, fun x hx => ?_⟩
  obtain ⟨q, hq, rfl⟩ := List.mem_map.mp hx
  exact tl_fr (h q hq)
theorem Wd.tl {ws : List Rat} (W : Wd ws) : Tl 2 (rw' (trim (thr ws))) := tl_row W.due_len W.due_c
theorem tl_mn {l m : List Rat} (h1 : Tl 2 (rw' l)) (h2 : Tl 2 (rw' m)) : Tl 3 (mn l m) := by
  refine .inr ⟨_, rfl, by simp, fun x hx => ?_⟩
  simp only [List.mem_cons, List.not_mem_nil, or_false] at hx
  rcases hx with rfl | rfl
  · exact h1
  · exact h2
theorem Wd.tl0 {ws : List Rat} (W : Wd ws) : Tl 2 (rw' ws) := tl_row W.n fun x hx => by have := (W.c x hx).2; omega
theorem fn_mn {l m : List Rat} (h1 : Fn 60 2 (rw' l)) (h2 : Fn 32 2 (rw' m)) : Fn 94 3 (mn l m) := (FnA.cons h1 (FnA.cons h2 (FnA.nil.le (Nat.le_refl _) (Nat.zero_le _)))).tup
/-! ### draws in a comprehension -/
theorem comp_draw {i n : Nat} {I : FA} {F : FE} {E : Src → EE} {e0 : EE} {S1 : Src} (P : D → Prop) (hI : I e0 = some (rgL 0 n, E S1)) (hn : n ≤ 1000) (hw : ∀ S, (E S).r[i]? = some none) (hE2 : ∀ S S', (⟨(E S).r, S'⟩ : EE) = E S')
    (hF : ∀ (S : Src) (d : D), ∃ x S', F ((E S).put i (some (.val d))) = some (.val x, (E S').put i (some (.val d))) ∧ P x) :
    ∃ (out : List D) (S' : Src), eComp [i] I (gN i) tYs F e0 = some (.fl out, E S') ∧ out.length = n ∧ ∀ x ∈ out, P x := by
  have w1 : ∀ S, wipeE (E S) [i] = E S := fun S => by show (E S).put i none = E S; exact put_none (hw S)
  obtain ⟨out, e', q1, q2, S', rfl, q3⟩ := compL_inv (vs := [i]) (g := gN i) (t := tYs) (F := F) (fun rem acc e => ∃ S, e = E S ∧ ∀ x ∈ acc, P x) (rgL 0 n) [] (E S1) ⟨S1, rfl, by simp⟩ (by
    rintro d rem acc e ⟨S, rfl, hacc⟩
    obtain ⟨x, S', h1, h2⟩ := hF S d
    have li := ltOf (hw S)
    refine ⟨_, if_pos li, _, rfl, _, _, h1, S', ?_, ?_⟩
    · show ((E S').put i _).put i none = E S'
      rw [put_put, put_none (hw S')]
    · intro y hy
      rcases List.mem_append.mp hy with h | h
      · exact hacc y h
      · rw [List.mem_singleton.mp h]; exact h2)
  rw [rgL_len] at q2
  refine ⟨out, S', ?_, q2, by simpa using q3⟩
  unfold eComp
  rw [hI, Option.bind_some]
  dsimp only
  rw [w1, q1, Option.bind_some]
  dsimp only
  rw [if_pos (small_le (by omega))]
  have : restE (E S1) (E S') [i] = E S' := by
    show (E S').put i (if ([] : List Nat).contains i then none else keepV (E S1).r[i]?) = E S'
    rw [hw S1]
    exact put_none (hw S')
  rw [this]
theorem rows_of {P : Rat → Prop} : ∀ {out : List D}, (∀ x ∈ out, ∃ q, x = fr q ∧ P q) → ∃ l : List Rat, out = l.map fr ∧ ∀ q ∈ l, P q
  | [], _ => ⟨[], rfl, by simp⟩
  | d :: out, h => by
    obtain ⟨q, rfl, hq⟩ := h d List.mem_cons_self
    obtain ⟨l, rfl, hl⟩ := rows_of (out := out) fun x hx => h x (List.mem_cons_of_mem _ hx)
    refine ⟨q :: l, rfl, fun x hx => ?_⟩
    rcases List.mem_cons.mp hx with rfl | hx
    · exact hq
    · exact hl x hx
end Law
end EL
set_option exponentiation.threshold 20000
namespace EL
open PySem PySem.Spec PyProof.Rows L2 R
namespace Law
theorem add_l {a b : List D} (h : a.length + b.length ≤ 1000) : gAdd (.list a) (.list b) = some (.fl (a ++ b)) := by
  show (if small (a.length + b.length) = true then _ else _) = _
  rw [if_pos (small_le (by omega))]
theorem add_t {a b : List D} (h : a.length + b.length ≤ 1000) : gAdd (.tuple a) (.tuple b) = some (.val (.tuple (a ++ b))) := by
  show (if small (a.length + b.length) = true then _ else _) = _
  rw [if_pos (small_le (by omega))]
theorem fn_intB {j : Int} {a : Nat} (h : j.natAbs < 2 ^ a) (ha : a ≤ 1000) : Fn a 0 (.int j) := by
  have hl : j.natAbs.log2 < a ∨ j = 0 := by
    by_cases z : j = 0
    · exact .inr z
    · exact .inl ((Nat.log2_lt (by omega)).mpr h)
  have hl2 : j.natAbs.log2 < 1000 := by
    rcases hl with hl | rfl
    · omega
    · decide
  refine ⟨?_, ?_, ?_, Nat.le_refl _⟩
  · unfold PyData.showable; exact decide_eq_true (by omega)
  · unfold PyData.leavesShort
    exact decide_eq_true (Nat.le_trans (int_text_len_1921 (i := j) (by omega)) (by decide))
  · unfold PyData.weight
    split
    · omega
    · rename_i z
      have z : j ≠ 0 := by simpa using z
      rcases hl with hl | hl
      · omega
      · exact absurd hl z
theorem fn_frB {q : Rat} {a b : Nat} (hn : q.num.natAbs < 2 ^ a) (hd : q.den < 2 ^ b) (ha : a ≤ 1000) (hb : b ≤ 1000) : Fn (a + b + 2) 1 (fr q) := by
  have h1 := fn_intB hn ha
  have h2 := fn_intB (j := (q.den : Int)) (a := b) (by omega) hb
  exact (FnA.cons h1 (FnA.cons h2 (FnA.nil.le (Nat.le_refl _) (Nat.zero_le _)))).tup.le (by omega) (Nat.le_refl _)
theorem fn_at {n : Nat} {q : Rat} (hn : n ≤ 1000) (h1 : q.num.natAbs < 2 ^ 900) (h2 : q.den < 2 ^ 900) : Fn 8000 180 (.tuple [.str "at", .int (n : Int), fr q]) := by
  have s : Fn 20 0 (.str "at") := fn_of (by decide +kernel)
  have i := fn_intA (j := (n : Int)) (a := 10) (by omega) (by decide)
  have f := fn_frB h1 h2 (by decide) (by decide)
  exact (FnA.cons (s.le (Nat.le_refl _) (by decide : 0 ≤ 1)) (FnA.cons (i.le (Nat.le_refl _) (by decide : 0 ≤ 1)) (FnA.cons f (FnA.nil.le (Nat.le_refl _) (Nat.zero_le _))))).tup.le (by decide) (by decide)
theorem fn_form : Fn 8000 180 formD := fn_of (by decide +kernel)
theorem fn_none : Fn 8000 180 .none := fn_of (by decide +kernel)
theorem b900 : 1000000 < 2 ^ 900 := Nat.lt_of_lt_of_le (by decide : 1000000 < 2 ^ 20) (Nat.pow_le_pow_right (by decide) (by decide))
section
variable {ws : List Rat} (W : Wd ws)
include W
theorem rowV_fn (v : D) : Fn 8000 180 (rowV ws v) := by
  unfold rowV
  split
  · unfold rowF
    split
    · rename_i n e
      rcases first_cases (fun n => !decide (ev (unrow v) (n : Rat) = co ws n)) ws.length with ⟨k, e1, e2, _⟩ | ⟨e1, _⟩
      · rw [e1] at e
        cases e
        have := (W.c _ (co_mem e2)).2
        have h4 := W.n
        have b := b900
        exact fn_at (by omega) (by omega) (by omega)
      · rw [e1] at e; cases e
    · split
      · have s : Fn 60 0 (.str "longer") := fn_of (by decide +kernel)
        have i := fn_intA (j := ((trim (thr ws)).length : Int)) (a := 10) (by have := W.due_len; omega) (by decide)
        exact (FnA.cons s (FnA.cons i (FnA.nil.le (Nat.le_refl _) (Nat.zero_le _)))).tup.le (by decide) (by decide)
      · exact fn_none
  · exact fn_form
/-- the row's worths are not too great -/
theorem ev_small {n : Nat} (hn : n ≤ 500) : (ev (trim (thr ws)) (n : Rat)).num.natAbs < 2 ^ 900 ∧ (ev (trim (thr ws)) (n : Rat)).den < 2 ^ 900 := by
  have hl := W.due_len
  have hs : ∀ x ∈ trim (thr ws), Sz 6 336 x := fun x hx => by
    obtain ⟨k, hk, rfl⟩ := mem_co (trim_mem hx)
    rw [thr_len] at hk
    rw [co_thr, if_pos hk]
    have := df_sz (w := EL.R.co ws) W.co k 0
    have h4 := W.n
    exact this.mono (Nat.mul_le_mul_right 42 (Nat.pow_le_pow_right (n := 2) (by decide) (by omega : k ≤ 3)))
  have t : Sz 6 ((trim (thr ws)).length * (2 ^ 500 * 336)) (ev (trim (thr ws)) (n : Rat)) := szS fun k hk => by
    have h2 := ch_bound (n := (n : Int)) ⟨by omega, by omega⟩ (k := k)
    have := Sz.intMul (ch (n : Int) k) (hs _ (co_mem hk))
    rw [ch_cr] at this
    exact this.mono (Nat.mul_le_mul h2 (Nat.le_refl _))
  have := t.num (by decide)
  have b := b900
  have e : (trim (thr ws)).length * (2 ^ 500 * 336) < 2 ^ 900 := by
    have : (trim (thr ws)).length * (2 ^ 500 * 336) ≤ 4 * (2 ^ 500 * 2 ^ 9) := Nat.mul_le_mul hl (Nat.mul_le_mul (Nat.le_refl _) (by decide))
    refine Nat.lt_of_le_of_lt this ?_
    rw [← Nat.pow_add, show (4 : Nat) = 2 ^ 2 from rfl, ← Nat.pow_add]
    exact Nat.pow_lt_pow_right (by decide) (by decide)
  exact ⟨by omega, by omega⟩
theorem lateV_fn {m : List Rat} (M0 : Wd m) {h : Nat} {v : D} (f : Fn 1600 h v) : Fn 8000 180 (lateV (trim (thr ws)) m v) := by
  unfold lateV
  split
  · rename_i hb
    obtain ⟨l', m', rfl, _, _⟩ := mean_is hb
    rw [unmean_mn]
    obtain ⟨_, _, f3⟩ := mn_fn f
    dsimp only
    have hK : lateN (trim (thr ws)) m l' m' ≤ 420 := by
      have := W.due_len
      have := M0.n
      unfold lateN; omega
    unfold lateF
    split
    · rename_i n e
      rcases first_cases (fun n => !decide (mat l' m' n = mat (trim (thr ws)) m n)) (lateN (trim (thr ws)) m l' m' + 1) with ⟨k, e1, e2, _⟩ | ⟨e1, _⟩
      · rw [e1] at e
        have e := Option.some.inj e
        subst e
        have s : (mat (trim (thr ws)) m k).num.natAbs < 2 ^ 900 ∧ (mat (trim (thr ws)) m k).den < 2 ^ 900 := by
          unfold mat
          split
          · rename_i q
            have := (M0.c _ (co_mem q)).2
            have b := b900
            exact ⟨by omega, by omega⟩
          · exact ev_small W (by omega)
        exact fn_at (by omega) s.1 s.2
      · rw [e1] at e; cases e
    · exact fn_none
  · exact fn_form
end
/-! ### the loops over values -/
section
variable {ws r : List Rat} {dp : D} {vals : List D} (W : Wd ws) (hr : r = trim (thr ws)) (hv : ∀ d ∈ vals, Fn 1600 100 d) (hl : vals.length ≤ 100)
include W hr hv hl
theorem loop1 (x3 x8 x9 x10 x11 x12 x13 : Option Ent) (S : Src) :
    NX (sFor (iSeq (eBin gAdd (oVal (eBin gAdd (oVar 7) (oVar 2))) (oVal (eComp [16] (iRg1 (oCons (oVal (fC (.int 8))) (oNil))) (gN 16) (tYs) (eCallS 1 (p__law_bent rec__law_bent) (aCons (fVar 5) (aCons (fVar 2) (aNil)))))))) (gN 8) (bCons (sSet 9 (eB gRepr (oCons (oVar 8) (oNil))))
      (sIf (tOr (tOf (eBin lNe (oVal (eB gRepr (oCons (oVal (eCall p_judge_row (aCons (eB gList (oCons (oVar 4) (oNil))) (aCons (fVar 8) (aNil))))) (oNil)))) (oVal (eB gRepr (oCons (oVal (eCall p__law_row_fault (aCons (fVar 4) (aCons (fVar 8) (aNil))))) (oNil)))))) (tOf (eBin lNe (oVal (eB gRepr (oCons (oVar 8) (oNil)))) (oVar 9)))) (sRet (fC (.bool false))) (sNx)))) ⟨[none, some .src, some (.val (.list odds)), x3, some (.val (.list (ws.map fr))), some (.val (rw' r)), some (.val dp), some (.ol vals), x8, x9, x10, x11, x12, x13, none, none, none], S⟩ (fun e => ∃ x8 x9 S, e = ⟨[none, some .src, some (.val (.list odds)), x3, some (.val (.list (ws.map fr))), some (.val (rw' r)), some (.val dp), some (.ol vals), x8, x9, x10, x11, x12, x13, none, none, none], S⟩) := by
  have fdue : Fn 60 30 (rw' r) := by rw [hr]; exact W.due_row.le (Nat.le_refl _) (by decide)
  have tdue : Tl 2 (rw' r) := by rw [hr]; exact W.tl
  have hw : inW 8 = true := x_inW (by decide) (by decide)
  obtain ⟨out, S', c, c1, c2⟩ := comp_draw (i := 16) (n := 8) (I := iRg1 (oCons (oVal (fC (.int 8))) (oNil))) (F := eCallS 1 (p__law_bent rec__law_bent) (aCons (fVar 5) (aCons (fVar 2) (aNil)))) (E := fun S => ⟨[none, some .src, some (.val (.list odds)), x3, some (.val (.list (ws.map fr))), some (.val (rw' r)), some (.val dp), some (.ol vals), x8, x9, x10, x11, x12, x13, none, none, none], S⟩) (e0 := ⟨[none, some .src, some (.val (.list odds)), x3, some (.val (.list (ws.map fr))), some (.val (rw' r)), some (.val dp), some (.ol vals), x8, x9, x10, x11, x12, x13, none, none, none], S⟩) (S1 := S) (Fn 1600 100) (by simp [hw]) (by decide) (fun _ => rfl) (fun _ _ => rfl) (fun S d => by
    obtain ⟨x, S2, e2, fx⟩ := v_bent (odd := odds) (by decide) (by decide) odds_ok (N := 60) (by decide) 2 8 (by decide) (rw' r) tdue fdue S
    have e2 : p__law_bent rec__law_bent [rw' r, .list odds] S = some (.val x, S2) := e2
    exact ⟨x, S2, by simp [e2], fx.le (by decide) (by decide)⟩)
  have a1 := add_l (a := vals) (b := odds) (by rw [odds_len]; omega)
  have a2 := add_l (a := vals ++ odds) (b := out) (by rw [List.length_append, odds_len]; omega)
  refine nx_for (fun rem e => (∀ d ∈ rem, Fn 1600 100 d) ∧ ∃ x8 x9, e = ⟨[none, some .src, some (.val (.list odds)), x3, some (.val (.list (ws.map fr))), some (.val (rw' r)), some (.val dp), some (.ol vals), x8, x9, x10, x11, x12, x13, none, none, none], S'⟩) (ds := vals ++ odds ++ out) (e1 := ⟨[none, some .src, some (.val (.list odds)), x3, some (.val (.list (ws.map fr))), some (.val (rw' r)), some (.val dp), some (.ol vals), x8, x9, x10, x11, x12, x13, none, none, none], S'⟩) ?_ ⟨?_, _, _, rfl⟩ ?_ (fun e ⟨_, x8, x9, h⟩ => ⟨x8, x9, S', h⟩)
  · generalize eComp [16] (iRg1 (oCons (oVal (fC (.int 8))) (oNil))) (gN 16) (tYs) (eCallS 1 (p__law_bent rec__law_bent) (aCons (fVar 5) (aCons (fVar 2) (aNil)))) = C at c ⊢
    generalize odds = O at c a1 a2 ⊢
    generalize vals ++ O = VO at a1 a2 ⊢
    simp [c, a1, a2]
  · intro d hd
    rcases List.mem_append.mp hd with hd | hd
    · rcases List.mem_append.mp hd with hd | hd
      · exact hv d hd
      · exact (odds_ok d hd).le (by decide) (by decide)
    · exact c2 d hd
  · rintro v rem e ⟨hrem, x8, x9, rfl⟩
    have fv := hrem v List.mem_cons_self
    have hj := v_judge_row (M := 42) (ws := ws) (by have := W.n; omega) W.co m42 fv
    have hf := v__law_row_fault (M := 42) (ws := ws) (by have := W.n; omega) W.co m42 fv
    have rp := repr_of (fv.le (by decide : 1600 ≤ 8000) (by decide : 100 ≤ 180))
    have ra := repr_of (rowV_fn W v)
    have l1 := lNe_str_same v.shown
    have l2 := lNe_str_same (rowV ws v).shown
    refine ⟨⟨[none, some .src, some (.val (.list odds)), x3, some (.val (.list (ws.map fr))), some (.val (rw' r)), some (.val dp), some (.ol vals), some (.val v), x9, x10, x11, x12, x13, none, none, none], S'⟩, by simp, nx_cons (nx_of (e' := ⟨[none, some .src, some (.val (.list odds)), x3, some (.val (.list (ws.map fr))), some (.val (rw' r)), some (.val dp), some (.ol vals), some (.val v), some (.val (.str v.shown)), x10, x11, x12, x13, none, none, none], S'⟩) (by simp [rp]) (nx_skip (e1 := ⟨[none, some .src, some (.val (.list odds)), x3, some (.val (.list (ws.map fr))), some (.val (rw' r)), some (.val dp), some (.ol vals), some (.val v), some (.val (.str v.shown)), x10, x11, x12, x13, none, none, none], S'⟩) (by simp [hj, hf, rp, ra, l1, l2]) ⟨fun d hd => hrem d (List.mem_cons_of_mem _ hd), _, _, rfl⟩))⟩
variable {m er : List Rat} (M0 : Wd m) (hm : Pe r m)
include M0 hm
theorem loop2 (x3 x8 x9 : Option Ent) (S : Src) :
    NX (sFor (iSeq (eBin gAdd (oVal (eBin gAdd (oVar 7) (oVar 2))) (oVal (eComp [16] (iRg1 (oCons (oVal (fC (.int 10))) (oNil))) (gN 16) (tYs) (eCallS 1 (p__law_bent rec__law_bent) (aCons (fVar 11) (aCons (fVar 2) (aNil)))))))) (gN 8) (bCons (sSet 9 (eB gRepr (oCons (oVar 8) (oNil))))
      (sIf (tOr (tOf (eBin lNe (oVal (eB gRepr (oCons (oVal (eCall p_judge_late (aCons (fVar 11) (aCons (fVar 8) (aNil))))) (oNil)))) (oVal (eB gRepr (oCons (oVal (eCall p__law_late_fault (aCons (fVar 11) (aCons (fVar 8) (aNil))))) (oNil)))))) (tOf (eBin lNe (oVal (eB gRepr (oCons (oVar 8) (oNil)))) (oVar 9)))) (sRet (fC (.bool false))) (sNx)))) ⟨[none, some .src, some (.val (.list odds)), x3, some (.val (.list (ws.map fr))), some (.val (rw' r)), some (.val dp), some (.ol vals), x8, x9, some (.val (.list (er.map fr))), some (.val (mn r m)), some (.val (rw' r)), some (.val (rw' m)), none, none, none], S⟩ (fun e => ∃ x8 x9 S, e = ⟨[none, some .src, some (.val (.list odds)), x3, some (.val (.list (ws.map fr))), some (.val (rw' r)), some (.val dp), some (.ol vals), x8, x9, some (.val (.list (er.map fr))), some (.val (mn r m)), some (.val (rw' r)), some (.val (rw' m)), none, none, none], S⟩) := by
  have fr0 : Fn 60 2 (rw' r) := by rw [hr]; exact W.due_row
  have fm0 : Fn 32 2 (rw' m) := M0.fn.tup
  have fmn : Fn 94 30 (mn r m) := (fn_mn fr0 fm0).le (Nat.le_refl _) (by decide)
  have tmn : Tl 3 (mn r m) := tl_mn (by rw [hr]; exact W.tl) M0.tl0
  have z0 : r.length ≤ 9 := by rw [hr]; have := W.due_len; omega
  have z1' : m.length ≤ 9 := by have := M0.n; omega
  have tr : Tr r := by rw [hr]; exact trim_tr _
  have hw : inW 10 = true := x_inW (by decide) (by decide)
  obtain ⟨out, S', c, c1, c2⟩ := comp_draw (i := 16) (n := 10) (I := iRg1 (oCons (oVal (fC (.int 10))) (oNil))) (F := eCallS 1 (p__law_bent rec__law_bent) (aCons (fVar 11) (aCons (fVar 2) (aNil)))) (E := fun S => ⟨[none, some .src, some (.val (.list odds)), x3, some (.val (.list (ws.map fr))), some (.val (rw' r)), some (.val dp), some (.ol vals), x8, x9, some (.val (.list (er.map fr))), some (.val (mn r m)), some (.val (rw' r)), some (.val (rw' m)), none, none, none], S⟩) (e0 := ⟨[none, some .src, some (.val (.list odds)), x3, some (.val (.list (ws.map fr))), some (.val (rw' r)), some (.val dp), some (.ol vals), x8, x9, some (.val (.list (er.map fr))), some (.val (mn r m)), some (.val (rw' r)), some (.val (rw' m)), none, none, none], S⟩) (S1 := S) (Fn 1600 100) (by simp [hw]) (by decide) (fun _ => rfl) (fun _ _ => rfl) (fun S d => by
    obtain ⟨x, S2, e2, fx⟩ := v_bent (odd := odds) (by decide) (by decide) odds_ok (N := 94) (by decide) 3 8 (by decide) (mn r m) tmn fmn S
    have e2 : p__law_bent rec__law_bent [mn r m, .list odds] S = some (.val x, S2) := e2
    exact ⟨x, S2, by simp [e2], fx.le (by decide) (by decide)⟩)
  have a1 := add_l (a := vals) (b := odds) (by rw [odds_len]; omega)
  have a2 := add_l (a := vals ++ odds) (b := out) (by rw [List.length_append, odds_len]; omega)
  refine nx_for (fun rem e => (∀ d ∈ rem, Fn 1600 100 d) ∧ ∃ x8 x9, e = ⟨[none, some .src, some (.val (.list odds)), x3, some (.val (.list (ws.map fr))), some (.val (rw' r)), some (.val dp), some (.ol vals), x8, x9, some (.val (.list (er.map fr))), some (.val (mn r m)), some (.val (rw' r)), some (.val (rw' m)), none, none, none], S'⟩) (ds := vals ++ odds ++ out) (e1 := ⟨[none, some .src, some (.val (.list odds)), x3, some (.val (.list (ws.map fr))), some (.val (rw' r)), some (.val dp), some (.ol vals), x8, x9, some (.val (.list (er.map fr))), some (.val (mn r m)), some (.val (rw' r)), some (.val (rw' m)), none, none, none], S'⟩) ?_ ⟨?_, _, _, rfl⟩ ?_ (fun e ⟨_, x8, x9, h⟩ => ⟨x8, x9, S', h⟩)
  · generalize eComp [16] (iRg1 (oCons (oVal (fC (.int 10))) (oNil))) (gN 16) (tYs) (eCallS 1 (p__law_bent rec__law_bent) (aCons (fVar 11) (aCons (fVar 2) (aNil)))) = C at c ⊢
    generalize odds = O at c a1 a2 ⊢
    generalize vals ++ O = VO at a1 a2 ⊢
    simp [c, a1, a2]
  · intro d hd
    rcases List.mem_append.mp hd with hd | hd
    · rcases List.mem_append.mp hd with hd | hd
      · exact hv d hd
      · exact (odds_ok d hd).le (by decide) (by decide)
    · exact c2 d hd
  · rintro v rem e ⟨hrem, x8, x9, rfl⟩
    have fv := hrem v List.mem_cons_self
    have f0 : Fn 1600 2 (rw' r) := fr0.le (by decide) (Nat.le_refl _)
    have hj := v_judge_late f0 z0 z1' fv tr hm
    have hf := v__law_late_fault f0 z0 z1' fv
    have rp := repr_of (fv.le (by decide : 1600 ≤ 8000) (by decide : 100 ≤ 180))
    have la := lateV_fn W M0 fv
    rw [← hr] at la
    have ra := repr_of la
    have l1 := lNe_str_same v.shown
    have l2 := lNe_str_same (lateV r m v).shown
    refine ⟨⟨[none, some .src, some (.val (.list odds)), x3, some (.val (.list (ws.map fr))), some (.val (rw' r)), some (.val dp), some (.ol vals), some (.val v), x9, some (.val (.list (er.map fr))), some (.val (mn r m)), some (.val (rw' r)), some (.val (rw' m)), none, none, none], S'⟩, by simp, nx_cons (nx_of (e' := ⟨[none, some .src, some (.val (.list odds)), x3, some (.val (.list (ws.map fr))), some (.val (rw' r)), some (.val dp), some (.ol vals), some (.val v), some (.val (.str v.shown)), some (.val (.list (er.map fr))), some (.val (mn r m)), some (.val (rw' r)), some (.val (rw' m)), none, none, none], S'⟩) (by simp [rp]) (nx_skip (e1 := ⟨[none, some .src, some (.val (.list odds)), x3, some (.val (.list (ws.map fr))), some (.val (rw' r)), some (.val dp), some (.ol vals), some (.val v), some (.val (.str v.shown)), some (.val (.list (er.map fr))), some (.val (mn r m)), some (.val (rw' r)), some (.val (rw' m)), none, none, none], S'⟩) (by simp [hj, hf, rp, ra, l1, l2]) ⟨fun d hd => hrem d (List.mem_cons_of_mem _ hd), _, _, rfl⟩))⟩
end
end Law
end EL
set_option exponentiation.threshold 20000
namespace EL
open PySem PySem.Spec PyProof.Rows L2 R
namespace Law
/-- the deep thing's slot -/
def Dp (y : Ent) (dp : D) : Prop := y = .val dp ∨ ∃ ds, y = .ol ds ∧ dp = .list ds
theorem number (S : Src) : ∃ x S', p__law_number [] S = some (.val x, S') ∧ ∃ q, x = fr q ∧ (Sz 6 42 q ∧ q.num.natAbs ≤ 7 ∧ q.den ≤ 3) := by
  obtain ⟨q, S', h1, h2⟩ := v_number S
  exact ⟨fr q, S', h1, q, rfl, h2⟩
theorem partA {P : EE → Prop} {rest : FS} (x : Ent) (hx : x = .ol odds ∨ x = .val (.list odds)) (x3 x4 x5 x6 x7 x8 x9 x10 x11 x12 x13 : Option Ent) (S : Src)
    (k : ∀ ws r dp y S, Wd ws → r = trim (thr ws) → Fn 200 40 dp → Dp y dp → NX rest ⟨[none, some .src, some (.val (.list odds)), x3, some (.val (.list (ws.map fr))), some (.val (rw' r)), (some y), x7, x8, x9, x10, x11, x12, x13, none, none, none], S⟩ P) :
    NX (bCons (sSet 4 (eComp [14] (iRg1 (oCons (oVal (eCallS 1 gPick (aCons (fC (.int 5)) (aNil)))) (oNil))) (gN 14) (tYs) (eCallS 1 p__law_number (aNil)))) (bCons (sPar [5, 6] (rCons (eCall p__law_through (aCons (fVar 4) (aNil))) (rCons (eCallS 1 p__law_deep (aCons (fVar 2) (aNil))) (rNil)))) (bCons (sIf (tOf (eBin lNe (oVal (eB gRepr (oCons (oVal (eCall p_row_through (aCons (eB gTuple (oCons (oVar 4) (oNil))) (aNil)))) (oNil)))) (oVal (eB gRepr (oCons (oVar 5) (oNil)))))) (sRet (fC (.bool false))) (sNx)) rest))) ⟨[none, some .src, (some x), x3, x4, x5, x6, x7, x8, x9, x10, x11, x12, x13, none, none, none], S⟩ P := by
  obtain ⟨n', S1, e1, r0, r1⟩ := draw (m := 5) (by decide) (by decide) S
  obtain ⟨n, rfl⟩ := Int.eq_ofNat_of_zero_le r0
  have hw : inW (n : Int) = true := x_inW (by omega) (by omega)
  obtain ⟨out, S2, c, c1, c2⟩ := comp_draw (i := 14) (n := n) (I := iRg1 (oCons (oVal (eCallS 1 gPick (aCons (fC (.int 5)) (aNil)))) (oNil))) (F := eCallS 1 p__law_number (aNil)) (E := fun S => ⟨[none, some .src, (some x), x3, x4, x5, x6, x7, x8, x9, x10, x11, x12, x13, none, none, none], S⟩) (e0 := ⟨[none, some .src, (some x), x3, x4, x5, x6, x7, x8, x9, x10, x11, x12, x13, none, none, none], S⟩) (S1 := S1) (fun x => ∃ q, x = fr q ∧ (Sz 6 42 q ∧ q.num.natAbs ≤ 7 ∧ q.den ≤ 3)) (by simp [e1, hw]) (by omega) (fun _ => rfl) (fun _ _ => rfl) (fun S d => by
    obtain ⟨x, S2, e2, fx⟩ := number S
    exact ⟨x, S2, by simp [e2], fx⟩)
  obtain ⟨ws, rfl, hws⟩ := rows_of c2
  rw [List.length_map] at c1
  have W : Wd ws := ⟨by omega, hws⟩
  obtain ⟨r, hr⟩ : ∃ r, r = trim (thr ws) := ⟨_, rfl⟩
  have t1 := W.thr1
  have t2 := W.thr2
  rw [← hr] at t1 t2
  obtain ⟨r', S3, e3, fd, hs⟩ := v_deep (odd := odds) (by decide) (by decide) odds_ok S2
  have fdue : Fn 8000 180 (rw' r) := by rw [hr]; exact W.due_row.le (by decide) (by decide)
  have rp := repr_of fdue
  have l1 := lNe_str_same (rw' r).shown
  have hy : Dp r'.ent r'.d := by
    rcases hs with hs | ⟨ds, rfl⟩
    · left; rw [hs]; rfl
    · exact .inr ⟨ds, rfl, rfl⟩
  refine nx_cons (nx_set c (by simp) ?_)
  simp only [x_put, List.set, x_e2]
  refine nx_cons (nx_of (e' := ⟨[none, some .src, some (.val (.list odds)), x3, some (.val (.list (ws.map fr))), some (.val (rw' r)), (some r'.ent), x7, x8, x9, x10, x11, x12, x13, none, none, none], S3⟩) ?_ ?_)
  · generalize odds = O at hx e3
    rcases hx with rfl | rfl <;> simp [t1, e3]
  refine nx_cons (nx_skip (e1 := ⟨[none, some .src, some (.val (.list odds)), x3, some (.val (.list (ws.map fr))), some (.val (rw' r)), (some r'.ent), x7, x8, x9, x10, x11, x12, x13, none, none, none], S3⟩) (by simp [t2, rp, l1]) ?_)
  exact k ws r r'.d r'.ent S3 W hr fd hy
/-! ### twice a row -/
def tw (r : List Rat) : List Rat := r.map (2 * ·)
theorem twice {r : List Rat} {v : Nat} {e : EE} (hv : e.r[v]? = some (some (.val (rw' r)))) (h15 : e.r[15]? = some none) (hr : ∀ x ∈ r, x.num.natAbs ≤ 336 ∧ x.den ≤ 6) (hl : r.length ≤ 4) :
    eComp [15] (iSeq (fVar v)) (gN 15) (tYs) (eCall p__law_by (aCons (eTup (aCons (fC (.int 2)) (aCons (fC (.int 1)) (aNil)))) (aCons (fVar 15) (aNil)))) e = some (.fl ((tw r).map fr), e) := by
  have l15 := ltOf h15
  have c := comp_look (e := e) (I := iSeq (fVar v)) (T := tYs) (F := eCall p__law_by (aCons (eTup (aCons (fC (.int 2)) (aCons (fC (.int 1)) (aNil)))) (aCons (fVar 15) (aNil)))) (i := 15) (ds := r.map fr) (fun _ => true) (fun d => fr (2 * unfr d)) (by
      have : fVar v e = some (.val (rw' r), e) := vVar hv
      have hz : seqD (rw' r) = some (r.map fr) := rfl
      simp only [x_iSeq, this, Option.bind_some, x_d1, hz]) h15 (by rw [List.length_map]; omega) (fun d hd => rfl) (fun d hd _ => by
      obtain ⟨q, hq, rfl⟩ := List.mem_map.mp hd
      rw [unfr_fr]
      have hb := nb_big
      have oq : Ok q := ⟨by have := (hr q hq).1; omega, by have := (hr q hq).2; omega⟩
      have o2 : Ok 2 := ⟨by show 2 < BIG; omega, by show 1 < BIG; omega⟩
      have b := v__law_by o2 oq
      exact ⟨.val (fr (2 * q)), vCall (asC (vTup (asC vC (asC vC asN)) (show (2 : Nat) ≤ 16777216 by decide)) (asC (r := .val (fr q)) (vVar (by simp [EE.put, l15])) asN)) b, rfl⟩)
  have e1 : ((r.map fr).filter fun _ => true).map (fun d => fr (2 * unfr d)) = (tw r).map fr := by
    rw [List.filter_eq_self.mpr fun _ _ => rfl, List.map_map]
    unfold tw
    rw [List.map_map]
    exact List.map_congr_left fun q _ => by show fr (2 * unfr (fr q)) = _; rw [unfr_fr]; rfl
  rw [e1] at c
  exact c
theorem tw_fn {ws : List Rat} (W : Wd ws) : FnA 64 1 ((tw (trim (thr ws))).map fr) := by
  refine fn_rows (a := 10) (b := 3) (n := 4) (fun x hx => ?_) (by decide) (by decide) (by unfold tw; rw [List.length_map]; exact W.due_len)
  obtain ⟨q, hq, rfl⟩ := List.mem_map.mp hx
  obtain ⟨k, hk, rfl⟩ := mem_co (trim_mem hq)
  rw [thr_len] at hk
  have h4 := W.n
  have hz : Sz 6 336 (EL.R.co (thr ws) k) := by
    rw [co_thr, if_pos hk]
    have := df_sz (w := EL.R.co ws) W.co k 0
    exact this.mono (Nat.mul_le_mul_right 42 (Nat.pow_le_pow_right (n := 2) (by decide) (by omega : k ≤ 3)))
  have := (Sz.intMul 2 hz).num (by decide)
  have e : (((2 : Int) : Rat)) = 2 := rfl
  rw [e] at this
  exact ⟨by omega, by omega⟩
end Law
end EL
set_option exponentiation.threshold 20000
namespace EL
open PySem PySem.Spec PyProof.Rows L2 R
namespace Law
def T (a b : Int) : D := .tuple [.int a, .int b]
def V1 (dl : List D) (dp : D) : List D := [.tuple dl, .list dl, .tuple (cutD dl none (some (-1))), .tuple (cutD dl (some 1) none), .tuple (dl ++ [T 1 1]), .tuple (dl ++ [T 0 1]), .tuple dl.reverse, dp, .tuple [dp]]
def V2 (dl wl tl : List D) : List D := [.tuple (dl ++ [T 0 1, T 0 1, T 0 1] ++ [T 5 7]), .tuple wl, .tuple tl]
theorem nil_fn {h : Nat} : FnA 0 h ([] : List D) := FnA.nil.le (Nat.le_refl _) (Nat.zero_le _)
theorem T_fn {a b : Int} {h : Nat} (ha : a.natAbs < 16) (hb : b.natAbs < 16) : Fn 10 (h + 1) (T a b) := by
  have h1 := fn_intA (j := a) (a := 4) (by omega) (by decide)
  have h2 := fn_intA (j := b) (a := 4) (by omega) (by decide)
  exact (FnA.cons h1 (FnA.cons h2 nil_fn)).tup.le (by decide) (by omega)
theorem vals1_fn {dl wl tl : List D} {dp : D} (hd : FnA 60 1 dl) (hw : FnA 32 1 wl) (ht : FnA 64 1 tl) (hp : Fn 200 40 dp) : ∀ d ∈ V1 dl dp ++ V2 dl wl tl, Fn 1600 100 d := by
  have t1 : FnA 11 1 [T 1 1] := FnA.cons (T_fn (by decide) (by decide)) nil_fn
  have t0 : FnA 11 1 [T 0 1] := FnA.cons (T_fn (by decide) (by decide)) nil_fn
  have t5 : FnA 11 1 [T 5 7] := FnA.cons (T_fn (by decide) (by decide)) nil_fn
  have t3 : FnA 33 1 [T 0 1, T 0 1, T 0 1] := FnA.cons (T_fn (by decide) (by decide)) (FnA.cons (T_fn (by decide) (by decide)) (FnA.cons (T_fn (by decide) (by decide)) nil_fn))
  intro d hm
  rcases List.mem_append.mp hm with hm | hm
  · simp only [V1, List.mem_cons, List.not_mem_nil, or_false] at hm
    rcases hm with rfl | rfl | rfl | rfl | rfl | rfl | rfl | rfl | rfl
    · exact hd.tup.le (by decide) (by decide)
    · exact hd.lst.le (by decide) (by decide)
    · exact (hd.cut _ _).tup.le (by decide) (by decide)
    · exact (hd.cut _ _).tup.le (by decide) (by decide)
    · exact (hd.app t1).tup.le (by decide) (by decide)
    · exact (hd.app t0).tup.le (by decide) (by decide)
    · exact hd.rev.tup.le (by decide) (by decide)
    · exact hp.le (by decide) (by decide)
    · exact (FnA.cons hp nil_fn).tup.le (by decide) (by decide)
  · simp only [V2, List.mem_cons, List.not_mem_nil, or_false] at hm
    rcases hm with rfl | rfl | rfl
    · exact ((hd.app t3).app t5).tup.le (by decide) (by decide)
    · exact hw.tup.le (by decide) (by decide)
    · exact ht.tup.le (by decide) (by decide)
theorem vals1 {P : EE → Prop} {rest : FS} {dl wl tl : List D} {dp : D} {y : Ent} (hy : Dp y dp) (hl : dl.length ≤ 4) (x3 x7 x8 x9 x10 x11 x12 x13 : Option Ent) (S : Src)
    (ct : ∀ x7, eComp [15] (iSeq (fVar 5)) (gN 15) (tYs) (eCall p__law_by (aCons (eTup (aCons (fC (.int 2)) (aCons (fC (.int 1)) (aNil)))) (aCons (fVar 15) (aNil)))) ⟨[none, some .src, some (.val (.list odds)), x3, some (.val (.list wl)), some (.val (.tuple dl)), some (.val dp), x7, x8, x9, x10, x11, x12, x13, none, none, none], S⟩ = some (.fl tl, ⟨[none, some .src, some (.val (.list odds)), x3, some (.val (.list wl)), some (.val (.tuple dl)), some (.val dp), x7, x8, x9, x10, x11, x12, x13, none, none, none], S⟩))
    (htl : tl.length ≤ 4) (hwl : wl.length ≤ 4)
    (k : NX rest ⟨[none, some .src, some (.val (.list odds)), x3, some (.val (.list wl)), some (.val (.tuple dl)), some (.val dp), some (.ol (V1 dl dp ++ V2 dl wl tl)), x8, x9, x10, x11, x12, x13, none, none, none], S⟩ P) :
    NX (bCons (sSet 7 (eLst (aCons (fVar 5) (aCons (eB gList (oCons (oVar 5) (oNil))) (aCons (eSl (oVar 5) (pNo) (pIn (eUn gNeg (oVal (fC (.int 1)))))) (aCons (eSl (oVar 5) (pIn (fC (.int 1))) (pNo)) (aCons (eBin gAdd (oVar 5) (oVal (eTup (aCons (eTup (aCons (fC (.int 1)) (aCons (fC (.int 1)) (aNil)))) (aNil))))) (aCons (eBin gAdd (oVar 5) (oVal (eTup (aCons (eTup (aCons (fC (.int 0)) (aCons (fC (.int 1)) (aNil)))) (aNil))))) (aCons (eUn gRev (oVar 5)) (aCons (fVar 6) (aCons (eTup (aCons (fVar 6) (aNil))) (aNil)))))))))))) (bCons (sSet 7 (eBin gAdd (oVar 7) (oVal (eLst (aCons (eBin gAdd (oVal (eBin gAdd (oVar 5) (oVal (eBin gMulT (oVal (eTup (aCons (eTup (aCons (fC (.int 0)) (aCons (fC (.int 1)) (aNil)))) (aNil)))) (oVal (fC (.int 3))))))) (oVal (eTup (aCons (eTup (aCons (fC (.int 5)) (aCons (fC (.int 7)) (aNil)))) (aNil))))) (aCons (eB gTuple (oCons (oVar 4) (oNil))) (aCons (eB gTuple (oCons (oVal (eComp [15] (iSeq (fVar 5)) (gN 15) (tYs) (eCall p__law_by (aCons (eTup (aCons (fC (.int 2)) (aCons (fC (.int 1)) (aNil)))) (aCons (fVar 15) (aNil)))))) (oNil))) (aNil)))))))) rest)) ⟨[none, some .src, some (.val (.list odds)), x3, some (.val (.list wl)), some (.val (.tuple dl)), (some y), x7, x8, x9, x10, x11, x12, x13, none, none, none], S⟩ P := by
  have a1 := add_t (a := dl) (b := [.tuple [.int 1, .int 1]]) (by simp; omega)
  have a0 := add_t (a := dl) (b := [.tuple [.int 0, .int 1]]) (by simp; omega)
  have m3 : gMulT (.tuple [.tuple [.int 0, .int 1]]) (.int 3) = some (.val (.tuple [.tuple [.int 0, .int 1], .tuple [.int 0, .int 1], .tuple [.int 0, .int 1]])) := rfl
  have a3 := add_t (a := dl) (b := [.tuple [.int 0, .int 1], .tuple [.int 0, .int 1], .tuple [.int 0, .int 1]]) (by simp; omega)
  have a5 := add_t (a := dl ++ [.tuple [.int 0, .int 1], .tuple [.int 0, .int 1], .tuple [.int 0, .int 1]]) (b := [.tuple [.int 5, .int 7]]) (by simp; omega)
  have al := add_l (a := V1 dl dp) (b := V2 dl wl tl) (by simp [V1, V2])
  refine nx_cons (nx_of (e' := ⟨[none, some .src, some (.val (.list odds)), x3, some (.val (.list wl)), some (.val (.tuple dl)), some (.val dp), some (.ol (V1 dl dp)), x8, x9, x10, x11, x12, x13, none, none, none], S⟩) ?_ ?_)
  · rcases hy with rfl | ⟨ds, rfl, rfl⟩ <;> simp [a1, a0, V1, T]
  have ct := ct (some (.ol (V1 dl dp)))
  refine nx_cons (nx_of (e' := ⟨[none, some .src, some (.val (.list odds)), x3, some (.val (.list wl)), some (.val (.tuple dl)), some (.val dp), some (.ol (V1 dl dp ++ V2 dl wl tl)), x8, x9, x10, x11, x12, x13, none, none, none], S⟩) ?_ k)
  generalize eComp [15] (iSeq (fVar 5)) (gN 15) (tYs) (eCall p__law_by (aCons (eTup (aCons (fC (.int 2)) (aCons (fC (.int 1)) (aNil)))) (aCons (fVar 15) (aNil)))) = C at ct ⊢
  generalize V1 dl dp = L1 at ct al ⊢
  unfold V2 T at al ⊢
  generalize dl ++ [.tuple [.int 0, .int 1], .tuple [.int 0, .int 1], .tuple [.int 0, .int 1]] = d3 at a3 a5 al ⊢
  simp [ct, m3, a3, a5, al]
end Law
end EL
set_option exponentiation.threshold 20000
namespace EL
open PySem PySem.Spec PyProof.Rows L2 R
namespace Law
theorem partC {P : EE → Prop} {rest : FS} {ws r : List Rat} {dp : D} {vals : List D} (W : Wd ws) (hr : r = trim (thr ws)) (x3 x8 x9 x10 x11 x12 x13 : Option Ent) (S : Src)
    (k : ∀ er m S, Wd er → Wd m → Pe r m → NX rest ⟨[none, some .src, some (.val (.list odds)), x3, some (.val (.list (ws.map fr))), some (.val (rw' r)), some (.val dp), some (.ol vals), x8, x9, some (.val (.list (er.map fr))), some (.val (mn r m)), some (.val (rw' r)), some (.val (rw' m)), none, none, none], S⟩ P) :
    NX (bCons (sSet 10 (eComp [14] (iRg1 (oCons (oVal (eCallS 1 gPick (aCons (fC (.int 5)) (aNil)))) (oNil))) (gN 14) (tYs) (eCallS 1 p__law_number (aNil)))) (bCons (sSet 11 (eCall p_mean_pair (aCons (fVar 5) (aCons (fVar 10) (aNil))))) (bCons (sAsg (fVar 11) (gT 2 (gsCons (gN 12) (gsCons (gN 13) (gsNil))))) rest))) ⟨[none, some .src, some (.val (.list odds)), x3, some (.val (.list (ws.map fr))), some (.val (rw' r)), some (.val dp), some (.ol vals), x8, x9, x10, x11, x12, x13, none, none, none], S⟩ P := by
  obtain ⟨n', S1, e1, r0, r1⟩ := draw (m := 5) (by decide) (by decide) S
  obtain ⟨n, rfl⟩ := Int.eq_ofNat_of_zero_le r0
  have hw : inW (n : Int) = true := x_inW (by omega) (by omega)
  obtain ⟨out, S2, c, c1, c2⟩ := comp_draw (i := 14) (n := n) (I := iRg1 (oCons (oVal (eCallS 1 gPick (aCons (fC (.int 5)) (aNil)))) (oNil))) (F := eCallS 1 p__law_number (aNil)) (E := fun S => ⟨[none, some .src, some (.val (.list odds)), x3, some (.val (.list (ws.map fr))), some (.val (rw' r)), some (.val dp), some (.ol vals), x8, x9, x10, x11, x12, x13, none, none, none], S⟩) (e0 := ⟨[none, some .src, some (.val (.list odds)), x3, some (.val (.list (ws.map fr))), some (.val (rw' r)), some (.val dp), some (.ol vals), x8, x9, x10, x11, x12, x13, none, none, none], S⟩) (S1 := S1) (fun x => ∃ q, x = fr q ∧ (Sz 6 42 q ∧ q.num.natAbs ≤ 7 ∧ q.den ≤ 3)) (by simp [e1, hw]) (by omega) (fun _ => rfl) (fun _ _ => rfl) (fun S d => by
    obtain ⟨x, S2, e2, fx⟩ := number S
    exact ⟨x, S2, by simp [e2], fx⟩)
  obtain ⟨er, rfl, hws⟩ := rows_of c2
  rw [List.length_map] at c1
  have W2 : Wd er := ⟨by omega, hws⟩
  have tr : Tr r := by rw [hr]; exact trim_tr _
  have fdue : Fn 1600 2 (rw' (trim r)) := by rw [trim_of_tr tr, hr]; exact W.due_row.le (by decide) (Nat.le_refl _)
  have mp := v_mean_pair (m := er) fdue (by rw [hr]; have := W.due_len; omega) (by omega)
  rw [trim_of_tr tr] at mp
  refine nx_cons (nx_set c (by simp) ?_)
  simp only [x_put, List.set, x_e2]
  refine nx_cons (nx_of (e' := ⟨[none, some .src, some (.val (.list odds)), x3, some (.val (.list (ws.map fr))), some (.val (rw' r)), some (.val dp), some (.ol vals), x8, x9, some (.val (.list (er.map fr))), some (.val (mn r (cutE r er))), x12, x13, none, none, none], S2⟩) (by simp [mp]) ?_)
  refine nx_cons (nx_of (e' := ⟨[none, some .src, some (.val (.list odds)), x3, some (.val (.list (ws.map fr))), some (.val (rw' r)), some (.val dp), some (.ol vals), x8, x9, some (.val (.list (er.map fr))), some (.val (mn r (cutE r er))), some (.val (rw' r)), some (.val (rw' (cutE r er))), none, none, none], S2⟩) (by unfold mn; simp) ?_)
  exact k er (cutE r er) S2 W2 (Wd.cut W2) (cutE_pe r er)
def U1 (dl ml : List D) : List D := [.tuple [.tuple dl, .tuple ml], .list [.tuple dl, .tuple ml], .tuple [.tuple dl, .tuple []], .tuple [.tuple [], .tuple ml], .tuple [.tuple dl, .tuple (cutD ml none (some (-1)))], .tuple [.tuple dl, .tuple (ml ++ [T 9 7])]]
def U2 (dl ml el : List D) : List D := [.tuple [.tuple dl, .tuple el], .tuple [.tuple (dl ++ [T 1 1]), .tuple ml], .tuple [.tuple ml, .tuple dl], .tuple [.tuple dl, .tuple ml, .int 0], .tuple [.tuple dl, .list ml]]
def U3 (ml : List D) (dp : D) : List D := [dp, .tuple [dp, .tuple ml]]
def U4 (dl ml tl : List D) (dp : D) : List D := [.tuple [.tuple dl, .tuple [dp]], .tuple [.tuple dl, .tuple (T 5 1 :: ml)], .tuple [.tuple tl, .tuple ml]]
theorem pair_fn {a b : D} {N M h : Nat} (x : Fn N 80 a) (y : Fn M 80 b) (hN : N + M + 2 ≤ 1600) : Fn 1600 100 (.tuple [a, b]) := (FnA.cons x (FnA.cons y nil_fn)).tup.le (by omega) (by decide)
theorem vals2_fn {dl ml el tl : List D} {dp : D} (hd : FnA 60 1 dl) (hm : FnA 32 1 ml) (he : FnA 32 1 el) (ht : FnA 64 1 tl) (hp : Fn 200 40 dp) : ∀ d ∈ U1 dl ml ++ U2 dl ml el ++ U3 ml dp ++ U4 dl ml tl dp, Fn 1600 100 d := by
  have t9 : FnA 11 1 [T 9 7] := FnA.cons (T_fn (by decide) (by decide)) nil_fn
  have t1 : FnA 11 1 [T 1 1] := FnA.cons (T_fn (by decide) (by decide)) nil_fn
  have t5 : Fn 10 1 (T 5 1) := T_fn (by decide) (by decide)
  have d8 : Fn 60 80 (.tuple dl) := hd.tup.le (Nat.le_refl _) (by decide)
  have m8 : Fn 32 80 (.tuple ml) := hm.tup.le (Nat.le_refl _) (by decide)
  have z8 : Fn 0 80 (.tuple []) := (nil_fn (h := 79)).tup
  have i8 : Fn 0 80 (.int 0) := (fn_intA (j := 0) (a := 0) (by decide) (by decide)).le (Nat.le_refl _) (Nat.zero_le _)
  have p8 : Fn 200 80 dp := hp.le (Nat.le_refl _) (by decide)
  intro d hx
  rcases List.mem_append.mp hx with hx | hx
  · rcases List.mem_append.mp hx with hx | hx
    · rcases List.mem_append.mp hx with hx | hx
      · simp only [U1, List.mem_cons, List.not_mem_nil, or_false] at hx
        rcases hx with rfl | rfl | rfl | rfl | rfl | rfl
        · exact pair_fn (h := 0) d8 m8 (by decide)
        · exact (FnA.cons d8 (FnA.cons m8 nil_fn)).lst.le (by decide) (by decide)
        · exact pair_fn (h := 0) d8 z8 (by decide)
        · exact pair_fn (h := 0) z8 m8 (by decide)
        · exact pair_fn (h := 0) d8 ((hm.cut _ _).tup.le (Nat.le_refl _) (by decide)) (by decide)
        · exact pair_fn (h := 0) d8 ((hm.app t9).tup.le (Nat.le_refl _) (by decide)) (by decide)
      · simp only [U2, List.mem_cons, List.not_mem_nil, or_false] at hx
        rcases hx with rfl | rfl | rfl | rfl | rfl
        · exact pair_fn (h := 0) d8 (he.tup.le (Nat.le_refl _) (by decide)) (by decide)
        · exact pair_fn (h := 0) ((hd.app t1).tup.le (Nat.le_refl _) (by decide)) m8 (by decide)
        · exact pair_fn (h := 0) m8 d8 (by decide)
        · exact (FnA.cons d8 (FnA.cons m8 (FnA.cons i8 nil_fn))).tup.le (by decide) (by decide)
        · exact pair_fn (h := 0) d8 (hm.lst.le (Nat.le_refl _) (by decide)) (by decide)
    · simp only [U3, List.mem_cons, List.not_mem_nil, or_false] at hx
      rcases hx with rfl | rfl
      · exact hp.le (by decide) (by decide)
      · exact pair_fn (h := 0) p8 m8 (by decide)
  · simp only [U4, List.mem_cons, List.not_mem_nil, or_false] at hx
    rcases hx with rfl | rfl | rfl
    · exact pair_fn (h := 0) d8 ((FnA.cons hp nil_fn).tup.le (Nat.le_refl _) (by decide)) (by decide)
    · exact pair_fn (h := 0) d8 ((FnA.cons t5 hm).tup.le (Nat.le_refl _) (by decide)) (by decide)
    · exact pair_fn (h := 0) (ht.tup.le (Nat.le_refl _) (by decide)) m8 (by decide)
theorem vals2 {P : EE → Prop} {rest : FS} {dl ml el wl tl : List D} {dp : D} (hl : dl.length ≤ 4) (hm : ml.length ≤ 4) (hel : el.length ≤ 4) (x3 x7 x8 x9 : Option Ent) (S : Src)
    (ct : ∀ x7, eComp [15] (iSeq (fVar 12)) (gN 15) (tYs) (eCall p__law_by (aCons (eTup (aCons (fC (.int 2)) (aCons (fC (.int 1)) (aNil)))) (aCons (fVar 15) (aNil)))) ⟨[none, some .src, some (.val (.list odds)), x3, some (.val (.list wl)), some (.val (.tuple dl)), some (.val dp), x7, x8, x9, some (.val (.list el)), some (.val (.tuple [.tuple dl, .tuple ml])), some (.val (.tuple dl)), some (.val (.tuple ml)), none, none, none], S⟩ = some (.fl tl, ⟨[none, some .src, some (.val (.list odds)), x3, some (.val (.list wl)), some (.val (.tuple dl)), some (.val dp), x7, x8, x9, some (.val (.list el)), some (.val (.tuple [.tuple dl, .tuple ml])), some (.val (.tuple dl)), some (.val (.tuple ml)), none, none, none], S⟩))
    (htl : tl.length ≤ 4)
    (k : NX rest ⟨[none, some .src, some (.val (.list odds)), x3, some (.val (.list wl)), some (.val (.tuple dl)), some (.val dp), some (.ol (U1 dl ml ++ U2 dl ml el ++ U3 ml dp ++ U4 dl ml tl dp)), x8, x9, some (.val (.list el)), some (.val (.tuple [.tuple dl, .tuple ml])), some (.val (.tuple dl)), some (.val (.tuple ml)), none, none, none], S⟩ P) :
    NX (bCons (sSet 7 (eLst (aCons (fVar 11) (aCons (eB gList (oCons (oVar 11) (oNil))) (aCons (eTup (aCons (fVar 12) (aCons (eTup (aNil)) (aNil)))) (aCons (eTup (aCons (eTup (aNil)) (aCons (fVar 13) (aNil)))) (aCons (eTup (aCons (fVar 12) (aCons (eSl (oVar 13) (pNo) (pIn (eUn gNeg (oVal (fC (.int 1)))))) (aNil)))) (aCons (eTup (aCons (fVar 12) (aCons (eBin gAdd (oVar 13) (oVal (eTup (aCons (eTup (aCons (fC (.int 9)) (aCons (fC (.int 7)) (aNil)))) (aNil))))) (aNil)))) (aNil))))))))) (bCons (sSet 7 (eBin gAdd (oVar 7) (oVal (eLst (aCons (eTup (aCons (fVar 5) (aCons (eB gTuple (oCons (oVar 10) (oNil))) (aNil)))) (aCons (eTup (aCons (eBin gAdd (oVar 12) (oVal (eTup (aCons (eTup (aCons (fC (.int 1)) (aCons (fC (.int 1)) (aNil)))) (aNil))))) (aCons (fVar 13) (aNil)))) (aCons (eTup (aCons (fVar 13) (aCons (fVar 12) (aNil)))) (aCons (eBin gAdd (oVar 11) (oVal (eTup (aCons (fC (.int 0)) (aNil))))) (aCons (eTup (aCons (fVar 12) (aCons (eB gList (oCons (oVar 13) (oNil))) (aNil)))) (aNil)))))))))) (bCons (sSet 7 (eBin gAdd (oVar 7) (oVal (eLst (aCons (fVar 6) (aCons (eTup (aCons (fVar 6) (aCons (fVar 13) (aNil)))) (aNil))))))) (bCons (sSet 7 (eBin gAdd (oVar 7) (oVal (eLst (aCons (eTup (aCons (fVar 12) (aCons (eTup (aCons (fVar 6) (aNil))) (aNil)))) (aCons (eTup (aCons (fVar 12) (aCons (eBin gAdd (oVal (eTup (aCons (eTup (aCons (fC (.int 5)) (aCons (fC (.int 1)) (aNil)))) (aNil)))) (oVar 13)) (aNil)))) (aCons (eTup (aCons (eB gTuple (oCons (oVal (eComp [15] (iSeq (fVar 12)) (gN 15) (tYs) (eCall p__law_by (aCons (eTup (aCons (fC (.int 2)) (aCons (fC (.int 1)) (aNil)))) (aCons (fVar 15) (aNil)))))) (oNil))) (aCons (fVar 13) (aNil)))) (aNil)))))))) rest)))) ⟨[none, some .src, some (.val (.list odds)), x3, some (.val (.list wl)), some (.val (.tuple dl)), some (.val dp), x7, x8, x9, some (.val (.list el)), some (.val (.tuple [.tuple dl, .tuple ml])), some (.val (.tuple dl)), some (.val (.tuple ml)), none, none, none], S⟩ P := by
  have a9 := add_t (a := ml) (b := [.tuple [.int 9, .int 7]]) (by simp; omega)
  have a1 := add_t (a := dl) (b := [.tuple [.int 1, .int 1]]) (by simp; omega)
  have a5 := add_t (a := [.tuple [.int 5, .int 1]]) (b := ml) (by simp; omega)
  have am := add_t (a := [.tuple dl, .tuple ml]) (b := [.int 0]) (by simp)
  have l2 := add_l (a := U1 dl ml) (b := U2 dl ml el) (by simp [U1, U2])
  have l3 := add_l (a := U1 dl ml ++ U2 dl ml el) (b := U3 ml dp) (by simp [U1, U2, U3])
  have l4 := add_l (a := U1 dl ml ++ U2 dl ml el ++ U3 ml dp) (b := U4 dl ml tl dp) (by simp [U1, U2, U3, U4])
  refine nx_cons (nx_of (e' := ⟨[none, some .src, some (.val (.list odds)), x3, some (.val (.list wl)), some (.val (.tuple dl)), some (.val dp), some (.ol (U1 dl ml)), x8, x9, some (.val (.list el)), some (.val (.tuple [.tuple dl, .tuple ml])), some (.val (.tuple dl)), some (.val (.tuple ml)), none, none, none], S⟩) (by simp [a9, U1, T]) ?_)
  refine nx_cons (nx_of (e' := ⟨[none, some .src, some (.val (.list odds)), x3, some (.val (.list wl)), some (.val (.tuple dl)), some (.val dp), some (.ol (U1 dl ml ++ U2 dl ml el)), x8, x9, some (.val (.list el)), some (.val (.tuple [.tuple dl, .tuple ml])), some (.val (.tuple dl)), some (.val (.tuple ml)), none, none, none], S⟩) ?_ ?_)
  · generalize U1 dl ml = L at l2 ⊢
    unfold U2 T at l2 ⊢
    simp [a1, am, l2]
  refine nx_cons (nx_of (e' := ⟨[none, some .src, some (.val (.list odds)), x3, some (.val (.list wl)), some (.val (.tuple dl)), some (.val dp), some (.ol (U1 dl ml ++ U2 dl ml el ++ U3 ml dp)), x8, x9, some (.val (.list el)), some (.val (.tuple [.tuple dl, .tuple ml])), some (.val (.tuple dl)), some (.val (.tuple ml)), none, none, none], S⟩) ?_ ?_)
  · generalize U1 dl ml ++ U2 dl ml el = L at l3 ⊢
    unfold U3 at l3 ⊢
    simp [l3]
  refine nx_cons (nx_of (e' := ⟨[none, some .src, some (.val (.list odds)), x3, some (.val (.list wl)), some (.val (.tuple dl)), some (.val dp), some (.ol (U1 dl ml ++ U2 dl ml el ++ U3 ml dp ++ U4 dl ml tl dp)), x8, x9, some (.val (.list el)), some (.val (.tuple [.tuple dl, .tuple ml])), some (.val (.tuple dl)), some (.val (.tuple ml)), none, none, none], S⟩) ?_ k)
  have ct := ct (some (.ol (U1 dl ml ++ U2 dl ml el ++ U3 ml dp)))
  generalize eComp [15] (iSeq (fVar 12)) (gN 15) (tYs) (eCall p__law_by (aCons (eTup (aCons (fC (.int 2)) (aCons (fC (.int 1)) (aNil)))) (aCons (fVar 15) (aNil)))) = C at ct ⊢
  generalize U1 dl ml ++ U2 dl ml el ++ U3 ml dp = L at l4 ct ⊢
  unfold U4 T at l4 ⊢
  simp [ct, a5, l4]
end Law
end EL
set_option exponentiation.threshold 20000
namespace EL
open PySem PySem.Spec PyProof.Rows L2 R
namespace Law
def LawEnv (e : EE) : Prop := ∃ x x3 x4 x5 x6 x7 x8 x9 x10 x11 x12 x13 S, (x = .ol odds ∨ x = .val (.list odds)) ∧ e = ⟨[none, some .src, (some x), x3, x4, x5, x6, x7, x8, x9, x10, x11, x12, x13, none, none, none], S⟩
theorem lap {e : EE} (he : LawEnv e) : NX (bCons (sSet 4 (eComp [14] (iRg1 (oCons (oVal (eCallS 1 gPick (aCons (fC (.int 5)) (aNil)))) (oNil))) (gN 14) (tYs) (eCallS 1 p__law_number (aNil)))) (bCons (sPar [5, 6] (rCons (eCall p__law_through (aCons (fVar 4) (aNil))) (rCons (eCallS 1 p__law_deep (aCons (fVar 2) (aNil))) (rNil)))) (bCons (sIf (tOf (eBin lNe (oVal (eB gRepr (oCons (oVal (eCall p_row_through (aCons (eB gTuple (oCons (oVar 4) (oNil))) (aNil)))) (oNil)))) (oVal (eB gRepr (oCons (oVar 5) (oNil)))))) (sRet (fC (.bool false))) (sNx)) (bCons (sSet 7 (eLst (aCons (fVar 5) (aCons (eB gList (oCons (oVar 5) (oNil))) (aCons (eSl (oVar 5) (pNo) (pIn (eUn gNeg (oVal (fC (.int 1)))))) (aCons (eSl (oVar 5) (pIn (fC (.int 1))) (pNo)) (aCons (eBin gAdd (oVar 5) (oVal (eTup (aCons (eTup (aCons (fC (.int 1)) (aCons (fC (.int 1)) (aNil)))) (aNil))))) (aCons (eBin gAdd (oVar 5) (oVal (eTup (aCons (eTup (aCons (fC (.int 0)) (aCons (fC (.int 1)) (aNil)))) (aNil))))) (aCons (eUn gRev (oVar 5)) (aCons (fVar 6) (aCons (eTup (aCons (fVar 6) (aNil))) (aNil)))))))))))) (bCons (sSet 7 (eBin gAdd (oVar 7) (oVal (eLst (aCons (eBin gAdd (oVal (eBin gAdd (oVar 5) (oVal (eBin gMulT (oVal (eTup (aCons (eTup (aCons (fC (.int 0)) (aCons (fC (.int 1)) (aNil)))) (aNil)))) (oVal (fC (.int 3))))))) (oVal (eTup (aCons (eTup (aCons (fC (.int 5)) (aCons (fC (.int 7)) (aNil)))) (aNil))))) (aCons (eB gTuple (oCons (oVar 4) (oNil))) (aCons (eB gTuple (oCons (oVal (eComp [15] (iSeq (fVar 5)) (gN 15) (tYs) (eCall p__law_by (aCons (eTup (aCons (fC (.int 2)) (aCons (fC (.int 1)) (aNil)))) (aCons (fVar 15) (aNil)))))) (oNil))) (aNil)))))))) (bCons (sFor (iSeq (eBin gAdd (oVal (eBin gAdd (oVar 7) (oVar 2))) (oVal (eComp [16] (iRg1 (oCons (oVal (fC (.int 8))) (oNil))) (gN 16) (tYs) (eCallS 1 (p__law_bent rec__law_bent) (aCons (fVar 5) (aCons (fVar 2) (aNil)))))))) (gN 8) (bCons (sSet 9 (eB gRepr (oCons (oVar 8) (oNil)))) (sIf (tOr (tOf (eBin lNe (oVal (eB gRepr (oCons (oVal (eCall p_judge_row (aCons (eB gList (oCons (oVar 4) (oNil))) (aCons (fVar 8) (aNil))))) (oNil)))) (oVal (eB gRepr (oCons (oVal (eCall p__law_row_fault (aCons (fVar 4) (aCons (fVar 8) (aNil))))) (oNil)))))) (tOf (eBin lNe (oVal (eB gRepr (oCons (oVar 8) (oNil)))) (oVar 9)))) (sRet (fC (.bool false))) (sNx)))) (bCons (sSet 10 (eComp [14] (iRg1 (oCons (oVal (eCallS 1 gPick (aCons (fC (.int 5)) (aNil)))) (oNil))) (gN 14) (tYs) (eCallS 1 p__law_number (aNil)))) (bCons (sSet 11 (eCall p_mean_pair (aCons (fVar 5) (aCons (fVar 10) (aNil))))) (bCons (sAsg (fVar 11) (gT 2 (gsCons (gN 12) (gsCons (gN 13) (gsNil))))) (bCons (sSet 7 (eLst (aCons (fVar 11) (aCons (eB gList (oCons (oVar 11) (oNil))) (aCons (eTup (aCons (fVar 12) (aCons (eTup (aNil)) (aNil)))) (aCons (eTup (aCons (eTup (aNil)) (aCons (fVar 13) (aNil)))) (aCons (eTup (aCons (fVar 12) (aCons (eSl (oVar 13) (pNo) (pIn (eUn gNeg (oVal (fC (.int 1)))))) (aNil)))) (aCons (eTup (aCons (fVar 12) (aCons (eBin gAdd (oVar 13) (oVal (eTup (aCons (eTup (aCons (fC (.int 9)) (aCons (fC (.int 7)) (aNil)))) (aNil))))) (aNil)))) (aNil))))))))) (bCons (sSet 7 (eBin gAdd (oVar 7) (oVal (eLst (aCons (eTup (aCons (fVar 5) (aCons (eB gTuple (oCons (oVar 10) (oNil))) (aNil)))) (aCons (eTup (aCons (eBin gAdd (oVar 12) (oVal (eTup (aCons (eTup (aCons (fC (.int 1)) (aCons (fC (.int 1)) (aNil)))) (aNil))))) (aCons (fVar 13) (aNil)))) (aCons (eTup (aCons (fVar 13) (aCons (fVar 12) (aNil)))) (aCons (eBin gAdd (oVar 11) (oVal (eTup (aCons (fC (.int 0)) (aNil))))) (aCons (eTup (aCons (fVar 12) (aCons (eB gList (oCons (oVar 13) (oNil))) (aNil)))) (aNil)))))))))) (bCons (sSet 7 (eBin gAdd (oVar 7) (oVal (eLst (aCons (fVar 6) (aCons (eTup (aCons (fVar 6) (aCons (fVar 13) (aNil)))) (aNil))))))) (bCons (sSet 7 (eBin gAdd (oVar 7) (oVal (eLst (aCons (eTup (aCons (fVar 12) (aCons (eTup (aCons (fVar 6) (aNil))) (aNil)))) (aCons (eTup (aCons (fVar 12) (aCons (eBin gAdd (oVal (eTup (aCons (eTup (aCons (fC (.int 5)) (aCons (fC (.int 1)) (aNil)))) (aNil)))) (oVar 13)) (aNil)))) (aCons (eTup (aCons (eB gTuple (oCons (oVal (eComp [15] (iSeq (fVar 12)) (gN 15) (tYs) (eCall p__law_by (aCons (eTup (aCons (fC (.int 2)) (aCons (fC (.int 1)) (aNil)))) (aCons (fVar 15) (aNil)))))) (oNil))) (aCons (fVar 13) (aNil)))) (aNil)))))))) (sFor (iSeq (eBin gAdd (oVal (eBin gAdd (oVar 7) (oVar 2))) (oVal (eComp [16] (iRg1 (oCons (oVal (fC (.int 10))) (oNil))) (gN 16) (tYs) (eCallS 1 (p__law_bent rec__law_bent) (aCons (fVar 11) (aCons (fVar 2) (aNil)))))))) (gN 8) (bCons (sSet 9 (eB gRepr (oCons (oVar 8) (oNil)))) (sIf (tOr (tOf (eBin lNe (oVal (eB gRepr (oCons (oVal (eCall p_judge_late (aCons (fVar 11) (aCons (fVar 8) (aNil))))) (oNil)))) (oVal (eB gRepr (oCons (oVal (eCall p__law_late_fault (aCons (fVar 11) (aCons (fVar 8) (aNil))))) (oNil)))))) (tOf (eBin lNe (oVal (eB gRepr (oCons (oVar 8) (oNil)))) (oVar 9)))) (sRet (fC (.bool false))) (sNx))))))))))))))))) e LawEnv := by
  obtain ⟨x, x3, x4, x5, x6, x7, x8, x9, x10, x11, x12, x13, S, hx, rfl⟩ := he
  refine partA x hx x3 x4 x5 x6 x7 x8 x9 x10 x11 x12 x13 S fun ws r dp y S W hr fp hy => ?_
  have hrl : r.length ≤ 4 := by rw [hr]; exact W.due_len
  have hrc : ∀ x ∈ r, x.num.natAbs ≤ 336 ∧ x.den ≤ 6 := by rw [hr]; exact W.due_c
  have fd : FnA 60 1 (r.map fr) := by rw [hr]; exact W.due_fn
  have ft : FnA 64 1 ((tw r).map fr) := by rw [hr]; exact tw_fn W
  have twl : ((tw r).map fr).length ≤ 4 := by unfold tw; simpa using hrl
  refine vals1 (dl := r.map fr) (wl := ws.map fr) (tl := (tw r).map fr) hy (by simpa using hrl) x3 x7 x8 x9 x10 x11 x12 x13 S (fun x7 => twice (r := r) rfl rfl hrc hrl) twl (by simpa using W.n) ?_
  refine nx_cons (nx_mono (loop1 W hr (vals1_fn fd W.fn ft fp) (by simp [V1, V2]) x3 x8 x9 x10 x11 x12 x13 S) ?_)
  rintro e ⟨x8, x9, S, rfl⟩
  refine partC W hr x3 x8 x9 x10 x11 x12 x13 S fun er m S W2 M0 hm => ?_
  refine vals2 (dl := r.map fr) (ml := m.map fr) (el := er.map fr) (wl := ws.map fr) (tl := (tw r).map fr) (by simpa using hrl) (by simpa using M0.n) (by simpa using W2.n) x3 (some (.ol (V1 (r.map fr) dp ++ V2 (r.map fr) (ws.map fr) ((tw r).map fr)))) x8 x9 S (fun x7 => twice (r := r) rfl rfl hrc hrl) twl ?_
  refine nx_mono (loop2 W hr (vals2_fn fd M0.fn W2.fn ft fp) (by simp [U1, U2, U3, U4]) (er := er) M0 hm x3 x8 x9 S) ?_
  rintro e ⟨x8, x9, S, rfl⟩
  exact ⟨_, _, _, _, _, _, _, _, _, _, _, _, S, .inr rfl, rfl⟩
theorem last : p_judge_late [.tuple [.tuple [], .tuple []], .tuple [.tuple [], .tuple []]] = some (.val .none) := by
  have f : Fn 1600 3 (mn [] []) := fn_of (by decide +kernel)
  have f0 : Fn 1600 3 (rw' []) := fn_of (by decide +kernel)
  have h := v_judge_late (l0 := []) (m0 := []) f0 (by simp) (by simp) f (.inl rfl) (.inl rfl)
  have e : lateV [] [] (mn [] []) = .none := by
    unfold lateV
    rw [meanB_mn, unmean_mn, decide_eq_true (show Tr [] from .inl rfl), decide_eq_true (show Pe [] [] from .inl rfl), if_pos (by rfl)]
    dsimp only
    unfold lateF
    rcases first_cases (fun n => !decide (mat [] [] n = mat [] [] n)) (lateN [] [] [] [] + 1) with ⟨n, _, _, e3, _⟩ | ⟨e1, _⟩
    · simp at e3
    · rw [e1]
  rw [e] at h
  exact h
theorem law_true (S : Src) : ∃ e', b_law (lawEnv 15 S) = some (.rt (.val (.bool true)), e') := by
  show RT b_law (lawEnv 15 S) (.val (.bool true))
  unfold b_law
  obtain ⟨B, hB⟩ : ∃ B : Int, B = 10 ^ 30 := ⟨_, rfl⟩
  have gp : gPow (.int 10) (.int 30) = some (.val (.int B)) := by
    rw [hB]
    show (if powOk 10 30 = true then _ else _) = _
    rw [if_pos (show powOk 10 30 = true from hid ⟨by decide, by decide, by decide⟩)]; rfl
  have hw : inW 3 = true := x_inW (by decide) (by decide)
  obtain ⟨O1, h1⟩ : ∃ O1 : List D, O1 = [.none, .bool true, .bool false, .int 0, .int 1, .str "", .tuple [], .tuple [.tuple [.int 0, .int 1]], .tuple [.tuple [.int 1, .int 1]], .tuple [.tuple [.int 2, .int 2]], .tuple [.tuple [.int 1, .int 0]], .tuple [.tuple [.bool true, .int 1]], .list [], .dict [], .tuple [.int 1, .int 2]] := ⟨_, rfl⟩
  obtain ⟨O2, h2⟩ : ∃ O2 : List D, O2 = [.tuple [.tuple [], .tuple []], .tuple [.tuple [], .tuple [.tuple [.int 1, .int 1]]], .tuple [.tuple [.tuple [.int 1, .int 1]], .tuple []], .tuple [.tuple [], .tuple [.tuple [.int 0, .int 1]]], .int B, .tuple [.list [], .tuple []]] := ⟨_, rfl⟩
  have ho : O1 ++ O2 = odds := by rw [h1, h2, hB]; rfl
  have al := add_l (a := O1) (b := O2) (by rw [h1, h2]; simp)
  rw [ho] at al
  refine rt_cons (nx_of (e' := ⟨[none, some .src, some (.ol O1), none, none, none, none, none, none, none, none, none, none, none, none, none, none], S⟩) (by rw [h1]; simp [lawEnv]) ?_)
  refine rt_cons (nx_of (e' := ⟨[none, some .src, some (.ol odds), none, none, none, none, none, none, none, none, none, none, none, none, none, none], S⟩) (by
    generalize odds = O at al ⊢
    rw [h2] at al
    simp [gp, al]) ?_)
  refine rt_cons (nx_for (fun _ e => LawEnv e) (ds := rgL 0 3) (e1 := ⟨[none, some .src, some (.ol odds), none, none, none, none, none, none, none, none, none, none, none, none, none, none], S⟩) (by simp [hw]) ⟨_, _, _, _, _, _, _, _, _, _, _, _, S, .inl rfl, rfl⟩ ?lap ?rest)
  case lap =>
    rintro d rem e ⟨x, x3, x4, x5, x6, x7, x8, x9, x10, x11, x12, x13, S, hx, rfl⟩
    exact ⟨_, rfl, lap ⟨x, _, _, _, _, _, _, _, _, _, _, _, S, hx, rfl⟩⟩
  case rest =>
    rintro e ⟨x, x3, x4, x5, x6, x7, x8, x9, x10, x11, x12, x13, S, hx, rfl⟩
    refine ⟨⟨[none, some .src, some x, x3, x4, x5, x6, x7, x8, x9, x10, x11, x12, x13, none, none, none], S⟩, ?_⟩
    simp [last]
end Law
end EL
namespace EL
open PySem PySem.Spec PyProof.Rows L2
namespace Law
section
variable {P : Program} {w : World} {K : PySem.W.Frag} {mg : Str → Option Value}
theorem def_mk {x : Str} {st : Stmt} {ps : List Str} {h : Heap} {f : Addr} {oc : Value} {od an : Option Addr} {osl : Array (Option Value)} {kV doc pm cdv ct : Value} (X : K.In h) (G : h.Ns mainGlobals mg) (a : PySem.W.nsIn K mainGlobals x = some (some (.ref f)))
    (l : K.lookup f = some ⟨oc, od, .func (PySem.W.fnOf x x (defArgs st) (defBody st) (defScope st) .none kV doc pm an cdv ct), osl⟩) (c : PySem.W.codeIn K cdv x = true) (k : PySem.W.keepIn K (.ref f) = true)
    (hb : ∀ (kV doc pm : Value) (an : Option Addr) (cdv ct : Value) (us : List Value), us.length = ps.length → bindArgs (PySem.W.fnOf x x (defArgs st) (defBody st) (defScope st) .none kV doc pm an cdv ct) ⟨us, []⟩ = pure (ps.zip us)) : Def K mg x st ps := by
  have F := fun_mk (st := st) l c k
  exact ⟨f, _, F, PySem.W.mg_of X G a, F.binds hb⟩
set_option maxHeartbeats 40000000 in
theorem all_mk {h : Heap} {fa : Addr} {f0 : Addr} {oc0 : Value} {od0 an0 : Option Addr} {sl0 : Array (Option Value)} {kV0 dc0 pm0 cd0 ct0 : Value}
    {f1 : Addr} {oc1 : Value} {od1 an1 : Option Addr} {sl1 : Array (Option Value)} {kV1 dc1 pm1 cd1 ct1 : Value}
    {f2 : Addr} {oc2 : Value} {od2 an2 : Option Addr} {sl2 : Array (Option Value)} {kV2 dc2 pm2 cd2 ct2 : Value}
    {f3 : Addr} {oc3 : Value} {od3 an3 : Option Addr} {sl3 : Array (Option Value)} {kV3 dc3 pm3 cd3 ct3 : Value}
    {f4 : Addr} {oc4 : Value} {od4 an4 : Option Addr} {sl4 : Array (Option Value)} {kV4 dc4 pm4 cd4 ct4 : Value}
    {f5 : Addr} {oc5 : Value} {od5 an5 : Option Addr} {sl5 : Array (Option Value)} {kV5 dc5 pm5 cd5 ct5 : Value}
    {f6 : Addr} {oc6 : Value} {od6 an6 : Option Addr} {sl6 : Array (Option Value)} {kV6 dc6 pm6 cd6 ct6 : Value}
    {f7 : Addr} {oc7 : Value} {od7 an7 : Option Addr} {sl7 : Array (Option Value)} {kV7 dc7 pm7 cd7 ct7 : Value}
    {f8 : Addr} {oc8 : Value} {od8 an8 : Option Addr} {sl8 : Array (Option Value)} {kV8 dc8 pm8 cd8 ct8 : Value}
    {f9 : Addr} {oc9 : Value} {od9 an9 : Option Addr} {sl9 : Array (Option Value)} {kV9 dc9 pm9 cd9 ct9 : Value}
    {f10 : Addr} {oc10 : Value} {od10 an10 : Option Addr} {sl10 : Array (Option Value)} {kV10 dc10 pm10 cd10 ct10 : Value}
    {f11 : Addr} {oc11 : Value} {od11 an11 : Option Addr} {sl11 : Array (Option Value)} {kV11 dc11 pm11 cd11 ct11 : Value}
    {f12 : Addr} {oc12 : Value} {od12 an12 : Option Addr} {sl12 : Array (Option Value)} {kV12 dc12 pm12 cd12 ct12 : Value}
    {f13 : Addr} {oc13 : Value} {od13 an13 : Option Addr} {sl13 : Array (Option Value)} {kV13 dc13 pm13 cd13 ct13 : Value}
    {f14 : Addr} {oc14 : Value} {od14 an14 : Option Addr} {sl14 : Array (Option Value)} {kV14 dc14 pm14 cd14 ct14 : Value}
    {f15 : Addr} {oc15 : Value} {od15 an15 : Option Addr} {sl15 : Array (Option Value)} {kV15 dc15 pm15 cd15 ct15 : Value}
    {f16 : Addr} {oc16 : Value} {od16 an16 : Option Addr} {sl16 : Array (Option Value)} {kV16 dc16 pm16 cd16 ct16 : Value}
    {f17 : Addr} {oc17 : Value} {od17 an17 : Option Addr} {sl17 : Array (Option Value)} {kV17 dc17 pm17 cd17 ct17 : Value}
    {f18 : Addr} {oc18 : Value} {od18 an18 : Option Addr} {sl18 : Array (Option Value)} {kV18 dc18 pm18 cd18 ct18 : Value}
    {f19 : Addr} {oc19 : Value} {od19 an19 : Option Addr} {sl19 : Array (Option Value)} {kV19 dc19 pm19 cd19 ct19 : Value}
    {f20 : Addr} {oc20 : Value} {od20 an20 : Option Addr} {sl20 : Array (Option Value)} {kV20 dc20 pm20 cd20 ct20 : Value}
    {f21 : Addr} {oc21 : Value} {od21 an21 : Option Addr} {sl21 : Array (Option Value)} {kV21 dc21 pm21 cd21 ct21 : Value}
    {f22 : Addr} {oc22 : Value} {od22 an22 : Option Addr} {sl22 : Array (Option Value)} {kV22 dc22 pm22 cd22 ct22 : Value}
    {f23 : Addr} {oc23 : Value} {od23 an23 : Option Addr} {sl23 : Array (Option Value)} {kV23 dc23 pm23 cd23 ct23 : Value}
    {f24 : Addr} {oc24 : Value} {od24 an24 : Option Addr} {sl24 : Array (Option Value)} {kV24 dc24 pm24 cd24 ct24 : Value}
    {f25 : Addr} {oc25 : Value} {od25 an25 : Option Addr} {sl25 : Array (Option Value)} {kV25 dc25 pm25 cd25 ct25 : Value}
    {f26 : Addr} {oc26 : Value} {od26 an26 : Option Addr} {sl26 : Array (Option Value)} {kV26 dc26 pm26 cd26 ct26 : Value}
    {f27 : Addr} {oc27 : Value} {od27 an27 : Option Addr} {sl27 : Array (Option Value)} {kV27 dc27 pm27 cd27 ct27 : Value}
    {f28 : Addr} {oc28 : Value} {od28 an28 : Option Addr} {sl28 : Array (Option Value)} {kV28 dc28 pm28 cd28 ct28 : Value}
    {f29 : Addr} {oc29 : Value} {od29 an29 : Option Addr} {sl29 : Array (Option Value)} {kV29 dc29 pm29 cd29 ct29 : Value}
    {f30 : Addr} {oc30 : Value} {od30 an30 : Option Addr} {sl30 : Array (Option Value)} {kV30 dc30 pm30 cd30 ct30 : Value}
    {f31 : Addr} {oc31 : Value} {od31 an31 : Option Addr} {sl31 : Array (Option Value)} {kV31 dc31 pm31 cd31 ct31 : Value}
    {f32 : Addr} {oc32 : Value} {od32 an32 : Option Addr} {sl32 : Array (Option Value)} {kV32 dc32 pm32 cd32 ct32 : Value}
    {f33 : Addr} {oc33 : Value} {od33 an33 : Option Addr} {sl33 : Array (Option Value)} {kV33 dc33 pm33 cd33 ct33 : Value}
    {f34 : Addr} {oc34 : Value} {od34 an34 : Option Addr} {sl34 : Array (Option Value)} {kV34 dc34 pm34 cd34 ct34 : Value}
    {f_ZERO : Addr} {od_ZERO : Option Addr} {its_ZERO : Array Value} {n_ZERO : Nat} {sl_ZERO : Array (Option Value)} (X : K.In h) (G : h.Ns mainGlobals mg) (hfa : mg "law" = some (.ref fa))
    (a0 : PySem.W.nsIn K mainGlobals "_law_open_cells" = some (some (.ref f0)))
    (l0 : K.lookup f0 = some ⟨oc0, od0, .func (PySem.W.fnOf "_law_open_cells" "_law_open_cells" (defArgs sOpen) (defBody sOpen) (defScope sOpen) .none kV0 dc0 pm0 an0 cd0 ct0), sl0⟩)
    (c0 : PySem.W.codeIn K cd0 "_law_open_cells" = true)
    (k0 : PySem.W.keepIn K (.ref f0) = true)
    (a1 : PySem.W.nsIn K mainGlobals "row_of" = some (some (.ref f1)))
    (l1 : K.lookup f1 = some ⟨oc1, od1, .func (PySem.W.fnOf "row_of" "row_of" (defArgs st_row_of) (defBody st_row_of) (defScope st_row_of) .none kV1 dc1 pm1 an1 cd1 ct1), sl1⟩)
    (c1 : PySem.W.codeIn K cd1 "row_of" = true)
    (k1 : PySem.W.keepIn K (.ref f1) = true)
    (a2 : PySem.W.nsIn K mainGlobals "fraction_of" = some (some (.ref f2)))
    (l2 : K.lookup f2 = some ⟨oc2, od2, .func (PySem.W.fnOf "fraction_of" "fraction_of" (defArgs st_fraction_of) (defBody st_fraction_of) (defScope st_fraction_of) .none kV2 dc2 pm2 an2 cd2 ct2), sl2⟩)
    (c2 : PySem.W.codeIn K cd2 "fraction_of" = true)
    (k2 : PySem.W.keepIn K (.ref f2) = true)
    (a3 : PySem.W.nsIn K mainGlobals "fraction_sum" = some (some (.ref f3)))
    (l3 : K.lookup f3 = some ⟨oc3, od3, .func (PySem.W.fnOf "fraction_sum" "fraction_sum" (defArgs st_fraction_sum) (defBody st_fraction_sum) (defScope st_fraction_sum) .none kV3 dc3 pm3 an3 cd3 ct3), sl3⟩)
    (c3 : PySem.W.codeIn K cd3 "fraction_sum" = true)
    (k3 : PySem.W.keepIn K (.ref f3) = true)
    (a4 : PySem.W.nsIn K mainGlobals "fraction_times" = some (some (.ref f4)))
    (l4 : K.lookup f4 = some ⟨oc4, od4, .func (PySem.W.fnOf "fraction_times" "fraction_times" (defArgs st_fraction_times) (defBody st_fraction_times) (defScope st_fraction_times) .none kV4 dc4 pm4 an4 cd4 ct4), sl4⟩)
    (c4 : PySem.W.codeIn K cd4 "fraction_times" = true)
    (k4 : PySem.W.keepIn K (.ref f4) = true)
    (a5 : PySem.W.nsIn K mainGlobals "row_at" = some (some (.ref f5)))
    (l5 : K.lookup f5 = some ⟨oc5, od5, .func (PySem.W.fnOf "row_at" "row_at" (defArgs st_row_at) (defBody st_row_at) (defScope st_row_at) .none kV5 dc5 pm5 an5 cd5 ct5), sl5⟩)
    (c5 : PySem.W.codeIn K cd5 "row_at" = true)
    (k5 : PySem.W.keepIn K (.ref f5) = true)
    (a6 : PySem.W.nsIn K mainGlobals "mean_pair" = some (some (.ref f6)))
    (l6 : K.lookup f6 = some ⟨oc6, od6, .func (PySem.W.fnOf "mean_pair" "mean_pair" (defArgs st_mean_pair) (defBody st_mean_pair) (defScope st_mean_pair) .none kV6 dc6 pm6 an6 cd6 ct6), sl6⟩)
    (c6 : PySem.W.codeIn K cd6 "mean_pair" = true)
    (k6 : PySem.W.keepIn K (.ref f6) = true)
    (a7 : PySem.W.nsIn K mainGlobals "is_integer" = some (some (.ref f7)))
    (l7 : K.lookup f7 = some ⟨oc7, od7, .func (PySem.W.fnOf "is_integer" "is_integer" (defArgs st_is_integer) (defBody st_is_integer) (defScope st_is_integer) .none kV7 dc7 pm7 an7 cd7 ct7), sl7⟩)
    (c7 : PySem.W.codeIn K cd7 "is_integer" = true)
    (k7 : PySem.W.keepIn K (.ref f7) = true)
    (a8 : PySem.W.nsIn K mainGlobals "is_fraction" = some (some (.ref f8)))
    (l8 : K.lookup f8 = some ⟨oc8, od8, .func (PySem.W.fnOf "is_fraction" "is_fraction" (defArgs st_is_fraction) (defBody st_is_fraction) (defScope st_is_fraction) .none kV8 dc8 pm8 an8 cd8 ct8), sl8⟩)
    (c8 : PySem.W.codeIn K cd8 "is_fraction" = true)
    (k8 : PySem.W.keepIn K (.ref f8) = true)
    (a9 : PySem.W.nsIn K mainGlobals "is_row" = some (some (.ref f9)))
    (l9 : K.lookup f9 = some ⟨oc9, od9, .func (PySem.W.fnOf "is_row" "is_row" (defArgs st_is_row) (defBody st_is_row) (defScope st_is_row) .none kV9 dc9 pm9 an9 cd9 ct9), sl9⟩)
    (c9 : PySem.W.codeIn K cd9 "is_row" = true)
    (k9 : PySem.W.keepIn K (.ref f9) = true)
    (a10 : PySem.W.nsIn K mainGlobals "is_mean" = some (some (.ref f10)))
    (l10 : K.lookup f10 = some ⟨oc10, od10, .func (PySem.W.fnOf "is_mean" "is_mean" (defArgs st_is_mean) (defBody st_is_mean) (defScope st_is_mean) .none kV10 dc10 pm10 an10 cd10 ct10), sl10⟩)
    (c10 : PySem.W.codeIn K cd10 "is_mean" = true)
    (k10 : PySem.W.keepIn K (.ref f10) = true)
    (a11 : PySem.W.nsIn K mainGlobals "mean_at" = some (some (.ref f11)))
    (l11 : K.lookup f11 = some ⟨oc11, od11, .func (PySem.W.fnOf "mean_at" "mean_at" (defArgs st_mean_at) (defBody st_mean_at) (defScope st_mean_at) .none kV11 dc11 pm11 an11 cd11 ct11), sl11⟩)
    (c11 : PySem.W.codeIn K cd11 "mean_at" = true)
    (k11 : PySem.W.keepIn K (.ref f11) = true)
    (a12 : PySem.W.nsIn K mainGlobals "judge_late" = some (some (.ref f12)))
    (l12 : K.lookup f12 = some ⟨oc12, od12, .func (PySem.W.fnOf "judge_late" "judge_late" (defArgs st_judge_late) (defBody st_judge_late) (defScope st_judge_late) .none kV12 dc12 pm12 an12 cd12 ct12), sl12⟩)
    (c12 : PySem.W.codeIn K cd12 "judge_late" = true)
    (k12 : PySem.W.keepIn K (.ref f12) = true)
    (a13 : PySem.W.nsIn K mainGlobals "_law_fraction" = some (some (.ref f13)))
    (l13 : K.lookup f13 = some ⟨oc13, od13, .func (PySem.W.fnOf "_law_fraction" "_law_fraction" (defArgs st__law_fraction) (defBody st__law_fraction) (defScope st__law_fraction) .none kV13 dc13 pm13 an13 cd13 ct13), sl13⟩)
    (c13 : PySem.W.codeIn K cd13 "_law_fraction" = true)
    (k13 : PySem.W.keepIn K (.ref f13) = true)
    (a14 : PySem.W.nsIn K mainGlobals "_law_pick" = some (some (.ref f14)))
    (l14 : K.lookup f14 = some ⟨oc14, od14, .func (PySem.W.fnOf "_law_pick" "_law_pick" (defArgs sPick) (defBody sPick) (defScope sPick) .none kV14 dc14 pm14 an14 cd14 ct14), sl14⟩)
    (c14 : PySem.W.codeIn K cd14 "_law_pick" = true)
    (k14 : PySem.W.keepIn K (.ref f14) = true)
    (a15 : PySem.W.nsIn K mainGlobals "_law_of" = some (some (.ref f15)))
    (l15 : K.lookup f15 = some ⟨oc15, od15, .func (PySem.W.fnOf "_law_of" "_law_of" (defArgs st__law_of) (defBody st__law_of) (defScope st__law_of) .none kV15 dc15 pm15 an15 cd15 ct15), sl15⟩)
    (c15 : PySem.W.codeIn K cd15 "_law_of" = true)
    (k15 : PySem.W.keepIn K (.ref f15) = true)
    (a16 : PySem.W.nsIn K mainGlobals "_law_number" = some (some (.ref f16)))
    (l16 : K.lookup f16 = some ⟨oc16, od16, .func (PySem.W.fnOf "_law_number" "_law_number" (defArgs st__law_number) (defBody st__law_number) (defScope st__law_number) .none kV16 dc16 pm16 an16 cd16 ct16), sl16⟩)
    (c16 : PySem.W.codeIn K cd16 "_law_number" = true)
    (k16 : PySem.W.keepIn K (.ref f16) = true)
    (a17 : PySem.W.nsIn K mainGlobals "_law_trimmed" = some (some (.ref f17)))
    (l17 : K.lookup f17 = some ⟨oc17, od17, .func (PySem.W.fnOf "_law_trimmed" "_law_trimmed" (defArgs st__law_trimmed) (defBody st__law_trimmed) (defScope st__law_trimmed) .none kV17 dc17 pm17 an17 cd17 ct17), sl17⟩)
    (c17 : PySem.W.codeIn K cd17 "_law_trimmed" = true)
    (k17 : PySem.W.keepIn K (.ref f17) = true)
    (a18 : PySem.W.nsIn K mainGlobals "_law_plus" = some (some (.ref f18)))
    (l18 : K.lookup f18 = some ⟨oc18, od18, .func (PySem.W.fnOf "_law_plus" "_law_plus" (defArgs st__law_plus) (defBody st__law_plus) (defScope st__law_plus) .none kV18 dc18 pm18 an18 cd18 ct18), sl18⟩)
    (c18 : PySem.W.codeIn K cd18 "_law_plus" = true)
    (k18 : PySem.W.keepIn K (.ref f18) = true)
    (a19 : PySem.W.nsIn K mainGlobals "_law_by" = some (some (.ref f19)))
    (l19 : K.lookup f19 = some ⟨oc19, od19, .func (PySem.W.fnOf "_law_by" "_law_by" (defArgs st__law_by) (defBody st__law_by) (defScope st__law_by) .none kV19 dc19 pm19 an19 cd19 ct19), sl19⟩)
    (c19 : PySem.W.codeIn K cd19 "_law_by" = true)
    (k19 : PySem.W.keepIn K (.ref f19) = true)
    (a20 : PySem.W.nsIn K mainGlobals "_law_through" = some (some (.ref f20)))
    (l20 : K.lookup f20 = some ⟨oc20, od20, .func (PySem.W.fnOf "_law_through" "_law_through" (defArgs st__law_through) (defBody st__law_through) (defScope st__law_through) .none kV20 dc20 pm20 an20 cd20 ct20), sl20⟩)
    (c20 : PySem.W.codeIn K cd20 "_law_through" = true)
    (k20 : PySem.W.keepIn K (.ref f20) = true)
    (a21 : PySem.W.nsIn K mainGlobals "_law_deep" = some (some (.ref f21)))
    (l21 : K.lookup f21 = some ⟨oc21, od21, .func (PySem.W.fnOf "_law_deep" "_law_deep" (defArgs st__law_deep) (defBody st__law_deep) (defScope st__law_deep) .none kV21 dc21 pm21 an21 cd21 ct21), sl21⟩)
    (c21 : PySem.W.codeIn K cd21 "_law_deep" = true)
    (k21 : PySem.W.keepIn K (.ref f21) = true)
    (a22 : PySem.W.nsIn K mainGlobals "fraction_less" = some (some (.ref f22)))
    (l22 : K.lookup f22 = some ⟨oc22, od22, .func (PySem.W.fnOf "fraction_less" "fraction_less" (defArgs st_fraction_less) (defBody st_fraction_less) (defScope st_fraction_less) .none kV22 dc22 pm22 an22 cd22 ct22), sl22⟩)
    (c22 : PySem.W.codeIn K cd22 "fraction_less" = true)
    (k22 : PySem.W.keepIn K (.ref f22) = true)
    (a23 : PySem.W.nsIn K mainGlobals "row_through" = some (some (.ref f23)))
    (l23 : K.lookup f23 = some ⟨oc23, od23, .func (PySem.W.fnOf "row_through" "row_through" (defArgs st_row_through) (defBody st_row_through) (defScope st_row_through) .none kV23 dc23 pm23 an23 cd23 ct23), sl23⟩)
    (c23 : PySem.W.codeIn K cd23 "row_through" = true)
    (k23 : PySem.W.keepIn K (.ref f23) = true)
    (a24 : PySem.W.nsIn K mainGlobals "_law_bent" = some (some (.ref f24)))
    (l24 : K.lookup f24 = some ⟨oc24, od24, .func (PySem.W.fnOf "_law_bent" "_law_bent" (defArgs st__law_bent) (defBody st__law_bent) (defScope st__law_bent) .none kV24 dc24 pm24 an24 cd24 ct24), sl24⟩)
    (c24 : PySem.W.codeIn K cd24 "_law_bent" = true)
    (k24 : PySem.W.keepIn K (.ref f24) = true)
    (a25 : PySem.W.nsIn K mainGlobals "judge_row" = some (some (.ref f25)))
    (l25 : K.lookup f25 = some ⟨oc25, od25, .func (PySem.W.fnOf "judge_row" "judge_row" (defArgs st_judge_row) (defBody st_judge_row) (defScope st_judge_row) .none kV25 dc25 pm25 an25 cd25 ct25), sl25⟩)
    (c25 : PySem.W.codeIn K cd25 "judge_row" = true)
    (k25 : PySem.W.keepIn K (.ref f25) = true)
    (a26 : PySem.W.nsIn K mainGlobals "_law_is_int" = some (some (.ref f26)))
    (l26 : K.lookup f26 = some ⟨oc26, od26, .func (PySem.W.fnOf "_law_is_int" "_law_is_int" (defArgs st__law_is_int) (defBody st__law_is_int) (defScope st__law_is_int) .none kV26 dc26 pm26 an26 cd26 ct26), sl26⟩)
    (c26 : PySem.W.codeIn K cd26 "_law_is_int" = true)
    (k26 : PySem.W.keepIn K (.ref f26) = true)
    (a27 : PySem.W.nsIn K mainGlobals "_law_is_fraction" = some (some (.ref f27)))
    (l27 : K.lookup f27 = some ⟨oc27, od27, .func (PySem.W.fnOf "_law_is_fraction" "_law_is_fraction" (defArgs st__law_is_fraction) (defBody st__law_is_fraction) (defScope st__law_is_fraction) .none kV27 dc27 pm27 an27 cd27 ct27), sl27⟩)
    (c27 : PySem.W.codeIn K cd27 "_law_is_fraction" = true)
    (k27 : PySem.W.keepIn K (.ref f27) = true)
    (a28 : PySem.W.nsIn K mainGlobals "_law_is_row" = some (some (.ref f28)))
    (l28 : K.lookup f28 = some ⟨oc28, od28, .func (PySem.W.fnOf "_law_is_row" "_law_is_row" (defArgs st__law_is_row) (defBody st__law_is_row) (defScope st__law_is_row) .none kV28 dc28 pm28 an28 cd28 ct28), sl28⟩)
    (c28 : PySem.W.codeIn K cd28 "_law_is_row" = true)
    (k28 : PySem.W.keepIn K (.ref f28) = true)
    (a29 : PySem.W.nsIn K mainGlobals "_law_choose" = some (some (.ref f29)))
    (l29 : K.lookup f29 = some ⟨oc29, od29, .func (PySem.W.fnOf "_law_choose" "_law_choose" (defArgs st__law_choose) (defBody st__law_choose) (defScope st__law_choose) .none kV29 dc29 pm29 an29 cd29 ct29), sl29⟩)
    (c29 : PySem.W.codeIn K cd29 "_law_choose" = true)
    (k29 : PySem.W.keepIn K (.ref f29) = true)
    (a30 : PySem.W.nsIn K mainGlobals "_law_row_at" = some (some (.ref f30)))
    (l30 : K.lookup f30 = some ⟨oc30, od30, .func (PySem.W.fnOf "_law_row_at" "_law_row_at" (defArgs st__law_row_at) (defBody st__law_row_at) (defScope st__law_row_at) .none kV30 dc30 pm30 an30 cd30 ct30), sl30⟩)
    (c30 : PySem.W.codeIn K cd30 "_law_row_at" = true)
    (k30 : PySem.W.keepIn K (.ref f30) = true)
    (a31 : PySem.W.nsIn K mainGlobals "_law_row_fault" = some (some (.ref f31)))
    (l31 : K.lookup f31 = some ⟨oc31, od31, .func (PySem.W.fnOf "_law_row_fault" "_law_row_fault" (defArgs st__law_row_fault) (defBody st__law_row_fault) (defScope st__law_row_fault) .none kV31 dc31 pm31 an31 cd31 ct31), sl31⟩)
    (c31 : PySem.W.codeIn K cd31 "_law_row_fault" = true)
    (k31 : PySem.W.keepIn K (.ref f31) = true)
    (a32 : PySem.W.nsIn K mainGlobals "_law_at" = some (some (.ref f32)))
    (l32 : K.lookup f32 = some ⟨oc32, od32, .func (PySem.W.fnOf "_law_at" "_law_at" (defArgs st__law_at) (defBody st__law_at) (defScope st__law_at) .none kV32 dc32 pm32 an32 cd32 ct32), sl32⟩)
    (c32 : PySem.W.codeIn K cd32 "_law_at" = true)
    (k32 : PySem.W.keepIn K (.ref f32) = true)
    (a33 : PySem.W.nsIn K mainGlobals "_law_late_fault" = some (some (.ref f33)))
    (l33 : K.lookup f33 = some ⟨oc33, od33, .func (PySem.W.fnOf "_law_late_fault" "_law_late_fault" (defArgs st__law_late_fault) (defBody st__law_late_fault) (defScope st__law_late_fault) .none kV33 dc33 pm33 an33 cd33 ct33), sl33⟩)
    (c33 : PySem.W.codeIn K cd33 "_law_late_fault" = true)
    (k33 : PySem.W.keepIn K (.ref f33) = true)
    (a34 : PySem.W.nsIn K mainGlobals "law" = some (some (.ref f34)))
    (l34 : K.lookup f34 = some ⟨oc34, od34, .func (PySem.W.fnOf "law" "law" (defArgs st_law) (defBody st_law) (defScope st_law) .none kV34 dc34 pm34 an34 cd34 ct34), sl34⟩)
    (c34 : PySem.W.codeIn K cd34 "law" = true)
    (k34 : PySem.W.keepIn K (.ref f34) = true)
    (z_tuple : PySem.W.nsIn K mainGlobals "tuple" = some none)
    (z_len : PySem.W.nsIn K mainGlobals "len" = some none)
    (z_enumerate : PySem.W.nsIn K mainGlobals "enumerate" = some none)
    (z_list : PySem.W.nsIn K mainGlobals "list" = some none)
    (z_isinstance : PySem.W.nsIn K mainGlobals "isinstance" = some none)
    (z_int : PySem.W.nsIn K mainGlobals "int" = some none)
    (z_bool : PySem.W.nsIn K mainGlobals "bool" = some none)
    (z_all : PySem.W.nsIn K mainGlobals "all" = some none)
    (z_max : PySem.W.nsIn K mainGlobals "max" = some none)
    (z_abs : PySem.W.nsIn K mainGlobals "abs" = some none)
    (z_zip : PySem.W.nsIn K mainGlobals "zip" = some none)
    (z_range : PySem.W.nsIn K mainGlobals "range" = some none)
    (z_repr : PySem.W.nsIn K mainGlobals "repr" = some none)
    (g_gcd : PySem.W.nsIn K mainGlobals "gcd" = some (some (.builtin "math.gcd")))
    (g_ZERO : PySem.W.nsIn K mainGlobals "ZERO" = some (some (.ref f_ZERO)))
    (l_ZERO : K.lookup f_ZERO = some ⟨.type "tuple", od_ZERO, .seq its_ZERO n_ZERO, sl_ZERO⟩)
    (s_ZERO : its_ZERO.size ≤ 60000)
    (v_ZERO : its_ZERO.toList.map (fun u => match u with | .int z _ => some z | _ => none) = (k_ZERO).map some)
    : ∃ fd : FuncData, (∀ (s : Shared) (v : Value), BindsTo s fd ⟨[v], []⟩ [("script", v)]) ∧ ∀ base : Heap, K.In base → base.Ns mainGlobals mg → (∃ o, base.get? sysModules = some o) → FnG P w K mg base 12 fa fd ["script"] (spLaw K) := by
  have e := hfa.symm.trans (PySem.W.mg_of X G a34)
  cases e
  have T : Mg K mg := ⟨PySem.W.mg_none_of X G z_tuple, PySem.W.mg_none_of X G z_len, PySem.W.mg_none_of X G z_enumerate, PySem.W.mg_none_of X G z_list, PySem.W.mg_none_of X G z_isinstance, PySem.W.mg_none_of X G z_int, PySem.W.mg_none_of X G z_bool, PySem.W.mg_none_of X G z_all, PySem.W.mg_none_of X G z_max, PySem.W.mg_none_of X G z_abs, PySem.W.mg_none_of X G z_zip, PySem.W.mg_none_of X G z_range, PySem.W.mg_none_of X G z_repr, konI_of (PySem.W.mg_of X G g_ZERO) l_ZERO s_ZERO v_ZERO, PySem.W.mg_of X G g_gcd⟩
  have d0 : Def K mg "_law_open_cells" sOpen ["script"] := def_mk X G a0 l0 c0 k0 fun _ _ _ _ _ _ us hl => match us, hl with | [_], _ => rfl
  have d1 : Def K mg "row_of" st_row_of ["some"] := def_mk X G a1 l1 c1 k1 fun _ _ _ _ _ _ us hl => match us, hl with | [_], _ => rfl
  have d2 : Def K mg "fraction_of" st_fraction_of ["p", "q"] := def_mk X G a2 l2 c2 k2 fun _ _ _ _ _ _ us hl => match us, hl with | [_, _], _ => rfl
  have d3 : Def K mg "fraction_sum" st_fraction_sum ["a", "b"] := def_mk X G a3 l3 c3 k3 fun _ _ _ _ _ _ us hl => match us, hl with | [_, _], _ => rfl
  have d4 : Def K mg "fraction_times" st_fraction_times ["a", "b"] := def_mk X G a4 l4 c4 k4 fun _ _ _ _ _ _ us hl => match us, hl with | [_, _], _ => rfl
  have d5 : Def K mg "row_at" st_row_at ["row", "n"] := def_mk X G a5 l5 c5 k5 fun _ _ _ _ _ _ us hl => match us, hl with | [_, _], _ => rfl
  have d6 : Def K mg "mean_pair" st_mean_pair ["row", "early"] := def_mk X G a6 l6 c6 k6 fun _ _ _ _ _ _ us hl => match us, hl with | [_, _], _ => rfl
  have d7 : Def K mg "is_integer" st_is_integer ["value"] := def_mk X G a7 l7 c7 k7 fun _ _ _ _ _ _ us hl => match us, hl with | [_], _ => rfl
  have d8 : Def K mg "is_fraction" st_is_fraction ["value"] := def_mk X G a8 l8 c8 k8 fun _ _ _ _ _ _ us hl => match us, hl with | [_], _ => rfl
  have d9 : Def K mg "is_row" st_is_row ["value"] := def_mk X G a9 l9 c9 k9 fun _ _ _ _ _ _ us hl => match us, hl with | [_], _ => rfl
  have d10 : Def K mg "is_mean" st_is_mean ["value"] := def_mk X G a10 l10 c10 k10 fun _ _ _ _ _ _ us hl => match us, hl with | [_], _ => rfl
  have d11 : Def K mg "mean_at" st_mean_at ["mean", "n"] := def_mk X G a11 l11 c11 k11 fun _ _ _ _ _ _ us hl => match us, hl with | [_, _], _ => rfl
  have d12 : Def K mg "judge_late" st_judge_late ["mean", "value"] := def_mk X G a12 l12 c12 k12 fun _ _ _ _ _ _ us hl => match us, hl with | [_, _], _ => rfl
  have d13 : Def K mg "_law_fraction" st__law_fraction ["p", "q"] := def_mk X G a13 l13 c13 k13 fun _ _ _ _ _ _ us hl => match us, hl with | [_, _], _ => rfl
  have d14 : Def K mg "_law_pick" sPick ["source", "most"] := def_mk X G a14 l14 c14 k14 fun _ _ _ _ _ _ us hl => match us, hl with | [_, _], _ => rfl
  have d15 : Def K mg "_law_of" st__law_of ["source", "some"] := def_mk X G a15 l15 c15 k15 fun _ _ _ _ _ _ us hl => match us, hl with | [_, _], _ => rfl
  have d16 : Def K mg "_law_number" st__law_number ["source"] := def_mk X G a16 l16 c16 k16 fun _ _ _ _ _ _ us hl => match us, hl with | [_], _ => rfl
  have d17 : Def K mg "_law_trimmed" st__law_trimmed ["some"] := def_mk X G a17 l17 c17 k17 fun _ _ _ _ _ _ us hl => match us, hl with | [_], _ => rfl
  have d18 : Def K mg "_law_plus" st__law_plus ["a", "b"] := def_mk X G a18 l18 c18 k18 fun _ _ _ _ _ _ us hl => match us, hl with | [_, _], _ => rfl
  have d19 : Def K mg "_law_by" st__law_by ["a", "b"] := def_mk X G a19 l19 c19 k19 fun _ _ _ _ _ _ us hl => match us, hl with | [_, _], _ => rfl
  have d20 : Def K mg "_law_through" st__law_through ["worths"] := def_mk X G a20 l20 c20 k20 fun _ _ _ _ _ _ us hl => match us, hl with | [_], _ => rfl
  have d21 : Def K mg "_law_deep" st__law_deep ["source", "odd"] := def_mk X G a21 l21 c21 k21 fun _ _ _ _ _ _ us hl => match us, hl with | [_, _], _ => rfl
  have d22 : Def K mg "fraction_less" st_fraction_less ["a", "b"] := def_mk X G a22 l22 c22 k22 fun _ _ _ _ _ _ us hl => match us, hl with | [_, _], _ => rfl
  have d23 : Def K mg "row_through" st_row_through ["worths"] := def_mk X G a23 l23 c23 k23 fun _ _ _ _ _ _ us hl => match us, hl with | [_], _ => rfl
  have d24 : Def K mg "_law_bent" st__law_bent ["source", "value", "odd"] := def_mk X G a24 l24 c24 k24 fun _ _ _ _ _ _ us hl => match us, hl with | [_, _, _], _ => rfl
  have d25 : Def K mg "judge_row" st_judge_row ["worths", "value"] := def_mk X G a25 l25 c25 k25 fun _ _ _ _ _ _ us hl => match us, hl with | [_, _], _ => rfl
  have d26 : Def K mg "_law_is_int" st__law_is_int ["value"] := def_mk X G a26 l26 c26 k26 fun _ _ _ _ _ _ us hl => match us, hl with | [_], _ => rfl
  have d27 : Def K mg "_law_is_fraction" st__law_is_fraction ["value"] := def_mk X G a27 l27 c27 k27 fun _ _ _ _ _ _ us hl => match us, hl with | [_], _ => rfl
  have d28 : Def K mg "_law_is_row" st__law_is_row ["value"] := def_mk X G a28 l28 c28 k28 fun _ _ _ _ _ _ us hl => match us, hl with | [_], _ => rfl
  have d29 : Def K mg "_law_choose" st__law_choose ["n", "k"] := def_mk X G a29 l29 c29 k29 fun _ _ _ _ _ _ us hl => match us, hl with | [_, _], _ => rfl
  have d30 : Def K mg "_law_row_at" st__law_row_at ["row", "n"] := def_mk X G a30 l30 c30 k30 fun _ _ _ _ _ _ us hl => match us, hl with | [_, _], _ => rfl
  have d31 : Def K mg "_law_row_fault" st__law_row_fault ["worths", "value"] := def_mk X G a31 l31 c31 k31 fun _ _ _ _ _ _ us hl => match us, hl with | [_, _], _ => rfl
  have d32 : Def K mg "_law_at" st__law_at ["mean", "n"] := def_mk X G a32 l32 c32 k32 fun _ _ _ _ _ _ us hl => match us, hl with | [_, _], _ => rfl
  have d33 : Def K mg "_law_late_fault" st__law_late_fault ["mean", "value"] := def_mk X G a33 l33 c33 k33 fun _ _ _ _ _ _ us hl => match us, hl with | [_, _], _ => rfl
  have FL := fun_mk (st := st_law) l34 c34 k34
  refine ⟨PySem.W.fnOf "law" "law" (defArgs st_law) (defBody st_law) (defScope st_law) .none kV34 dc34 pm34 an34 cd34 ct34, fun s v => .of_eq rfl, fun base _ _ sys => ?_⟩
  have c__law_open_cells : Cal P w K mg base 1 "_law_open_cells" ["script"] (spOpen K) := cal_of d0 fun F => ok_open F (PySem.W.mg_none_of X G z_int) (PySem.W.mg_none_of X G z_abs)
  have c_row_of := ok_row_of (P := P) (w := w) d1 T sys 
  have c_fraction_of := ok_fraction_of (P := P) (w := w) d2 T sys 
  have c_fraction_sum := ok_fraction_sum (P := P) (w := w) d3 T sys c_fraction_of
  have c_fraction_times := ok_fraction_times (P := P) (w := w) d4 T sys c_fraction_of
  have c_row_at := ok_row_at (P := P) (w := w) d5 T sys c_fraction_sum c_fraction_times
  have c_mean_pair := ok_mean_pair (P := P) (w := w) d6 T sys c_row_at c_row_of
  have c_is_integer := ok_is_integer (P := P) (w := w) d7 T sys 
  have c_is_fraction := ok_is_fraction (P := P) (w := w) d8 T sys c_is_integer
  have c_is_row := ok_is_row (P := P) (w := w) d9 T sys c_is_fraction
  have c_is_mean := ok_is_mean (P := P) (w := w) d10 T sys c_is_fraction c_is_row c_row_at
  have c_mean_at := ok_mean_at (P := P) (w := w) d11 T sys c_row_at
  have c_judge_late := ok_judge_late (P := P) (w := w) d12 T sys c_is_mean c_mean_at
  have c__law_fraction := ok__law_fraction (P := P) (w := w) d13 T sys 
  have c__law_pick : Cal P w K mg base 1 "_law_pick" ["source", "most"] (spS K gPick) := cal_of d14 fun F => ok_pick F (PySem.W.mg_none_of X G z_int) (PySem.W.mg_none_of X G z_len)
  have c__law_of := ok__law_of (P := P) (w := w) d15 T sys c__law_pick
  have c__law_number := ok__law_number (P := P) (w := w) d16 T sys c__law_fraction c__law_of
  have c__law_trimmed := ok__law_trimmed (P := P) (w := w) d17 T sys 
  have c__law_plus := ok__law_plus (P := P) (w := w) d18 T sys c__law_fraction
  have c__law_by := ok__law_by (P := P) (w := w) d19 T sys c__law_fraction
  have c__law_through := ok__law_through (P := P) (w := w) d20 T sys c__law_by c__law_plus c__law_trimmed
  have c__law_deep := ok__law_deep (P := P) (w := w) d21 T sys c__law_of c__law_pick
  have c_fraction_less := ok_fraction_less (P := P) (w := w) d22 T sys c_fraction_of
  have c_row_through := ok_row_through (P := P) (w := w) d23 T sys c_fraction_less c_row_of
  have c__law_bent : Cal P w K mg base 11 "_law_bent" ["source", "value", "odd"] (spS K (p__law_bent rec__law_bent)) := ok__law_bent d24 T sys c__law_of c__law_pick rec__law_bent
  have c_judge_row := ok_judge_row (P := P) (w := w) d25 T sys c_is_row c_row_at c_row_through
  have c__law_is_int := ok__law_is_int (P := P) (w := w) d26 T sys 
  have c__law_is_fraction := ok__law_is_fraction (P := P) (w := w) d27 T sys c__law_fraction c__law_is_int
  have c__law_is_row := ok__law_is_row (P := P) (w := w) d28 T sys c__law_is_fraction
  have c__law_choose := ok__law_choose (P := P) (w := w) d29 T sys 
  have c__law_row_at := ok__law_row_at (P := P) (w := w) d30 T sys c__law_by c__law_choose c__law_plus
  have c__law_row_fault := ok__law_row_fault (P := P) (w := w) d31 T sys c__law_is_row c__law_row_at c__law_through
  have c__law_at := ok__law_at (P := P) (w := w) d32 T sys c__law_row_at
  have c__law_late_fault := ok__law_late_fault (P := P) (w := w) d33 T sys c__law_at c__law_is_fraction c__law_is_row c__law_row_at
  exact ok_law FL T sys c__law_bent c__law_by c__law_deep c__law_late_fault c__law_number c__law_pick c__law_row_fault c__law_through c_judge_late c_judge_row c_mean_pair c_row_through c__law_open_cells law_true
end
end Law
end EL
open PySem PySem.W PyProof.Rows
set_option maxRecDepth 100000 in
set_option maxHeartbeats 0 in
theorem PySem.Challenge.cw_roundvalues_k36_rows_and_means_judged_holds : PySem.Challenge.rw_roundvalues_k36_rows_and_means_judged.Holds := by
  w_on; o_law; k_head; (case hw => w_witness2)
  k_fill
  refine EL.walkG (l := PySem.Challenge.rw_roundvalues_k36_rows_and_means_judged) (k := 12) rfl rfl ⟨rfl, by decide, by decide⟩ (by decide +kernel) (fun w h Y => PySem.W.kIn_of Y) ?F
  case F =>
    intro w mg fa h KX G hmg
    refine' EL.Law.all_mk KX G hmg ?a0 ?l0 ?c0 ?k0 ?a1 ?l1 ?c1 ?k1 ?a2 ?l2 ?c2 ?k2 ?a3 ?l3 ?c3 ?k3 ?a4 ?l4 ?c4 ?k4 ?a5 ?l5 ?c5 ?k5 ?a6 ?l6 ?c6 ?k6 ?a7 ?l7 ?c7 ?k7 ?a8 ?l8 ?c8 ?k8 ?a9 ?l9 ?c9 ?k9 ?a10 ?l10 ?c10 ?k10 ?a11 ?l11 ?c11 ?k11 ?a12 ?l12 ?c12 ?k12 ?a13 ?l13 ?c13 ?k13 ?a14 ?l14 ?c14 ?k14 ?a15 ?l15 ?c15 ?k15 ?a16 ?l16 ?c16 ?k16 ?a17 ?l17 ?c17 ?k17 ?a18 ?l18 ?c18 ?k18 ?a19 ?l19 ?c19 ?k19 ?a20 ?l20 ?c20 ?k20 ?a21 ?l21 ?c21 ?k21 ?a22 ?l22 ?c22 ?k22 ?a23 ?l23 ?c23 ?k23 ?a24 ?l24 ?c24 ?k24 ?a25 ?l25 ?c25 ?k25 ?a26 ?l26 ?c26 ?k26 ?a27 ?l27 ?c27 ?k27 ?a28 ?l28 ?c28 ?k28 ?a29 ?l29 ?c29 ?k29 ?a30 ?l30 ?c30 ?k30 ?a31 ?l31 ?c31 ?k31 ?a32 ?l32 ?c32 ?k32 ?a33 ?l33 ?c33 ?k33 ?a34 ?l34 ?c34 ?k34 ?z_tuple ?z_len ?z_enumerate ?z_list ?z_isinstance ?z_int ?z_bool ?z_all ?z_max ?z_abs ?z_zip ?z_range ?z_repr ?g_gcd ?g_ZERO ?l_ZERO ?s_ZERO ?v_ZERO
    (case a0 => k_is); (case l0 => k_is); (case c0 => k_is); (case k0 => k_is)
    (case a1 => k_is); (case l1 => k_is); (case c1 => k_is); (case k1 => k_is)
    (case a2 => k_is); (case l2 => k_is); (case c2 => k_is); (case k2 => k_is)
    (case a3 => k_is); (case l3 => k_is); (case c3 => k_is); (case k3 => k_is)
    (case a4 => k_is); (case l4 => k_is); (case c4 => k_is); (case k4 => k_is)
    (case a5 => k_is); (case l5 => k_is); (case c5 => k_is); (case k5 => k_is)
    (case a6 => k_is); (case l6 => k_is); (case c6 => k_is); (case k6 => k_is)
    (case a7 => k_is); (case l7 => k_is); (case c7 => k_is); (case k7 => k_is)
    (case a8 => k_is); (case l8 => k_is); (case c8 => k_is); (case k8 => k_is)
    (case a9 => k_is); (case l9 => k_is); (case c9 => k_is); (case k9 => k_is)
    (case a10 => k_is); (case l10 => k_is); (case c10 => k_is); (case k10 => k_is)
    (case a11 => k_is); (case l11 => k_is); (case c11 => k_is); (case k11 => k_is)
    (case a12 => k_is); (case l12 => k_is); (case c12 => k_is); (case k12 => k_is)
    (case a13 => k_is); (case l13 => k_is); (case c13 => k_is); (case k13 => k_is)
    (case a14 => k_is); (case l14 => k_is); (case c14 => k_is); (case k14 => k_is)
    (case a15 => k_is); (case l15 => k_is); (case c15 => k_is); (case k15 => k_is)
    (case a16 => k_is); (case l16 => k_is); (case c16 => k_is); (case k16 => k_is)
    (case a17 => k_is); (case l17 => k_is); (case c17 => k_is); (case k17 => k_is)
    (case a18 => k_is); (case l18 => k_is); (case c18 => k_is); (case k18 => k_is)
    (case a19 => k_is); (case l19 => k_is); (case c19 => k_is); (case k19 => k_is)
    (case a20 => k_is); (case l20 => k_is); (case c20 => k_is); (case k20 => k_is)
    (case a21 => k_is); (case l21 => k_is); (case c21 => k_is); (case k21 => k_is)
    (case a22 => k_is); (case l22 => k_is); (case c22 => k_is); (case k22 => k_is)
    (case a23 => k_is); (case l23 => k_is); (case c23 => k_is); (case k23 => k_is)
    (case a24 => k_is); (case l24 => k_is); (case c24 => k_is); (case k24 => k_is)
    (case a25 => k_is); (case l25 => k_is); (case c25 => k_is); (case k25 => k_is)
    (case a26 => k_is); (case l26 => k_is); (case c26 => k_is); (case k26 => k_is)
    (case a27 => k_is); (case l27 => k_is); (case c27 => k_is); (case k27 => k_is)
    (case a28 => k_is); (case l28 => k_is); (case c28 => k_is); (case k28 => k_is)
    (case a29 => k_is); (case l29 => k_is); (case c29 => k_is); (case k29 => k_is)
    (case a30 => k_is); (case l30 => k_is); (case c30 => k_is); (case k30 => k_is)
    (case a31 => k_is); (case l31 => k_is); (case c31 => k_is); (case k31 => k_is)
    (case a32 => k_is); (case l32 => k_is); (case c32 => k_is); (case k32 => k_is)
    (case a33 => k_is); (case l33 => k_is); (case c33 => k_is); (case k33 => k_is)
    (case a34 => k_is); (case l34 => k_is); (case c34 => k_is); (case k34 => k_is)
    (case z_tuple => k_is); (case z_len => k_is); (case z_enumerate => k_is); (case z_list => k_is)
    (case z_isinstance => k_is); (case z_int => k_is); (case z_bool => k_is); (case z_all => k_is)
    (case z_max => k_is); (case z_abs => k_is); (case z_zip => k_is); (case z_range => k_is)
    (case z_repr => k_is); (case g_gcd => k_is); (case g_ZERO => k_is); (case l_ZERO => k_is)
    (case s_ZERO => decide +kernel); (case v_ZERO => decide +kernel)
#print axioms PySem.Challenge.cw_roundvalues_k36_rows_and_means_judged_holds
