import PyProof.Rows.All
import Wide.All
import OpenK.AllK
import Wide.FinOn
import HandS.Base
import HandS.Call
import HandS.List
import HandS.Comp
import HandS.Ends
import HandS.Dict
import HandS.Iter
import HandS.Text
import HandS.Words
import HandS.WordsList
import HandS.Wide
import HandS.Flow
import HandS.Style
import HandS.IsInst
import HandS.More
import HandS.Deep
import HandS.Codes
import HandS.StrMore
import HandS.Defaults
import HandS.MakeKwOnly
import HandS.TupLen
import HandS.TupAny
import HandS.DictComp
import HandS.Flt
import HandS.EndBits
import PySem.Challenge.RW_quirekiln_k21_bounded_widths
set_option Elab.async false
set_option linter.all false
set_option maxRecDepth 100000
set_option maxHeartbeats 4000000
namespace DV
open PySem L2

/-! ### heaps that grow -/
def Ex (H H' : Hp) : Prop := ∀ a o, H a = some o → H' a = some o
theorem Ex.refl (H : Hp) : Ex H H := fun _ _ h => h
theorem Ex.trans {H H1 H2 : Hp} (a : Ex H H1) (b : Ex H1 H2) : Ex H H2 := fun x o h => b x o (a x o h)
theorem Ex.new {H : Hp} {p : Addr} {o : HO} (h : H p = none) : Ex H (upd H p o) := fun a u e => by
  rw [upd_ne (ne_of_none e h)]; exact e
/-- an object that H does not know may change -/
theorem Ex.mut {H H' : Hp} {p : Addr} {o : HO} (e : Ex H H') (h : H p = none) : Ex H (upd H' p o) := fun a u ha => by
  rw [upd_ne (ne_of_none ha h)]; exact e a u ha
theorem Ex.upd2 {H H' : Hp} {p : Addr} {o : HO} (e : Ex H H') : Ex (upd H p o) (upd H' p o) := fun a u ha => by
  by_cases h : a = p
  · subst h; rw [upd_same] at ha ⊢; exact ha
  · rw [upd_ne h] at ha ⊢; exact e a u ha
theorem Ex.back {H H' : Hp} {p : Addr} (e : Ex H H') (h : H' p = none) : H p = none := by
  cases h1 : H p with
  | none => rfl
  | some o => rw [e p o h1] at h; cases h
theorem Ex.rd {H H' : Hp} {a : Addr} {u : HO} (e : Ex H H') (h : Rd H a u) : Rd H' a u := by
  rcases h with h | ⟨o, h⟩
  · exact Or.inl (e a _ h)
  · exact Or.inr ⟨o, e a _ h⟩
theorem Ex.sql {K : PySem.W.Frag} {H H' : Hp} {a : Addr} {xs : List V} (e : Ex H H') (h : SqL K H a xs) : SqL K H' a xs := h.imp e.rd id
theorem Ex.sqt {K : PySem.W.Frag} {H H' : Hp} {a : Addr} {xs : List V} (e : Ex H H') (h : SqT K H a xs) : SqT K H' a xs := h.imp e.rd id

theorem sqtOf {K : PySem.W.Frag} {G : Hp} {a : Addr} {vs : List V} (h : G a = some (.tup vs)) : SqT K G a vs := .inl (.inl h)
/-! ### deep values -/
/-- the keys of a dict as data -/
def keyD : Key → PyData
  | .inl i => .int i
  | .inr x => .str x
def keysD (ks : List Key) : PyData := .tuple (ks.map keyD)
mutual
inductive Rep (K : PySem.W.Frag) (G : Hp) : PyData → V → Prop
  | non : Rep K G .none .non
  | bl (b : Bool) : Rep K G (.bool b) (.bl b)
  | int (i : Int) : Rep K G (.int i) (.int i)
  | str (x : Str) : Rep K G (.str x) (.str x)
  | lst {a : Addr} {vs : List V} {ds : List PyData} : Rd G a (.lst vs) → RepA K G ds vs → Rep K G (.list ds) (.ref a)
  | tup {a : Addr} {vs : List V} {ds : List PyData} : G a = some (.tup vs) → RepA K G ds vs → Rep K G (.tuple ds) (.ref a)
  | dK {a : Addr} {ks : List (Key × V)} {es : List (PyData × PyData)} : (∃ o, G a = some (.frz o (.dK ks))) → es.map (·.1) = ks.map (fun p => keyD p.1) → RepA K G (es.map (·.2)) (ks.map (·.2)) → Rep K G (.dict es) (.ref a)
  | dT {a : Addr} {ks : List (List Key × V)} {es : List (PyData × PyData)} : (∃ o, G a = some (.frz o (.dT ks))) → es.map (·.1) = ks.map (fun p => keysD p.1) → RepA K G (es.map (·.2)) (ks.map (·.2)) → Rep K G (.dict ((.none, .none) :: es)) (.ref a)
inductive RepA (K : PySem.W.Frag) (G : Hp) : List PyData → List V → Prop
  | nil : RepA K G [] []
  | cons {d : PyData} {ds : List PyData} {v : V} {vs : List V} : Rep K G d v → RepA K G ds vs → RepA K G (d :: ds) (v :: vs)
end
section
variable {K : PySem.W.Frag} {G G' H : Hp}
mutual
theorem Rep.mono (e : Ex G G') : ∀ {d : PyData} {v : V}, Rep K G d v → Rep K G' d v
  | _, _, .non => .non
  | _, _, .bl b => .bl b
  | _, _, .int i => .int i
  | _, _, .str x => .str x
  | _, _, .lst h r => .lst (e.rd h) (RepA.mono e r)
  | _, _, .tup h r => .tup (e _ _ h) (RepA.mono e r)
  | _, _, .dK h k r => .dK (h.imp fun o q => e _ _ q) k (RepA.mono e r)
  | _, _, .dT h k r => .dT (h.imp fun o q => e _ _ q) k (RepA.mono e r)
theorem RepA.mono (e : Ex G G') : ∀ {ds : List PyData} {vs : List V}, RepA K G ds vs → RepA K G' ds vs
  | _, _, .nil => .nil
  | _, _, .cons h r => .cons (Rep.mono e h) (RepA.mono e r)
end
theorem RepA.len : ∀ {ds : List PyData} {vs : List V}, RepA K G ds vs → ds.length = vs.length
  | _, _, .nil => rfl
  | _, _, .cons _ r => congrArg (· + 1) r.len
theorem RepA.get : ∀ {ds : List PyData} {vs : List V} {i : Nat} {d : PyData}, RepA K G ds vs → ds[i]? = some d → ∃ v, vs[i]? = some v ∧ Rep K G d v
  | _, _, _, _, .nil, e => by simp at e
  | _, _, 0, _, .cons h _, e => by simp at e; subst e; exact ⟨_, rfl, h⟩
  | _, _, i + 1, d, .cons _ r, e => by
    obtain ⟨v, h1, h2⟩ := RepA.get (i := i) (d := d) r (by simpa using e)
    exact ⟨v, by simpa using h1, h2⟩
theorem RepA.getV {ds : List PyData} {vs : List V} {i : Nat} {v : V} (r : RepA K G ds vs) (e : vs[i]? = some v) : ∃ d, ds[i]? = some d ∧ Rep K G d v := by
  have hi := (List.getElem?_eq_some_iff.mp e).1
  rw [← r.len] at hi
  obtain ⟨w, h1, h2⟩ := r.get (List.getElem?_eq_getElem hi)
  rw [e] at h1; cases h1
  exact ⟨_, List.getElem?_eq_getElem hi, h2⟩
theorem RepA.app : ∀ {ds es : List PyData} {vs us : List V}, RepA K G ds vs → RepA K G es us → RepA K G (ds ++ es) (vs ++ us)
  | _, _, _, _, .nil, s => s
  | _, _, _, _, .cons h r, s => .cons h (RepA.app r s)
theorem RepA.take : ∀ {ds : List PyData} {vs : List V} (n : Nat), RepA K G ds vs → RepA K G (ds.take n) (vs.take n)
  | _, _, 0, _ => .nil
  | _, _, _ + 1, .nil => .nil
  | _, _, n + 1, .cons h r => .cons h (RepA.take n r)
theorem RepA.drop : ∀ {ds : List PyData} {vs : List V} (n : Nat), RepA K G ds vs → RepA K G (ds.drop n) (vs.drop n)
  | _, _, 0, r => r
  | _, _, _ + 1, .nil => .nil
  | _, _, n + 1, .cons _ r => RepA.drop n r
theorem RepA.set : ∀ {ds : List PyData} {vs : List V} {d : PyData} {v : V} (i : Nat), RepA K G ds vs → Rep K G d v → RepA K G (ds.set i d) (vs.set i v)
  | _, _, _, _, _, .nil, _ => .nil
  | _, _, _, _, 0, .cons _ r, h => .cons h r
  | _, _, _, _, i + 1, .cons q r, h => .cons q (RepA.set i r h)
theorem RepA.reverse {ds : List PyData} {vs : List V} (r : RepA K G ds vs) : RepA K G ds.reverse vs.reverse := by
  induction ds generalizing vs with
  | nil => cases r; exact .nil
  | cons d ds ih =>
    cases r with
    | cons h r =>
      rw [List.reverse_cons, List.reverse_cons]
      exact (ih r).app (.cons h .nil)
/-- data made of ints -/
theorem RepA.ints (ns : List Int) : RepA K G (ns.map .int) (ns.map V.int) := by
  induction ns with
  | nil => exact .nil
  | cons n r ih => exact .cons (.int n) ih
theorem RepA.ofInts : ∀ {ns : List Int} {vs : List V}, RepA K G (ns.map .int) vs → vs = ns.map V.int
  | [], _, .nil => rfl
  | n :: r, _, .cons h t => by
    cases h
    rw [RepA.ofInts t]; rfl
theorem RepA.ofStrs : ∀ {ns : List Str} {vs : List V}, RepA K G (ns.map .str) vs → vs = ns.map V.str
  | [], _, .nil => rfl
  | n :: r, _, .cons h t => by
    cases h
    rw [RepA.ofStrs t]; rfl
theorem RepA.strs (ns : List Str) : RepA K G (ns.map .str) (ns.map V.str) := by
  induction ns with
  | nil => exact .nil
  | cons n r ih => exact .cons (.str n) ih

/-- what is read now: its root may be somebody's own -/
inductive RepB (K : PySem.W.Frag) (G H : Hp) : PyData → V → Prop
  | val {d : PyData} {v : V} : Rep K G d v → RepB K G H d v
  | lst {a : Addr} {vs : List V} {ds : List PyData} : H a = some (.lst vs) → RepA K G ds vs → RepB K G H (.list ds) (.ref a)
  | dK {a : Addr} {ks : List (Key × V)} {es : List (PyData × PyData)} : H a = some (.dK ks) → es.map (·.1) = ks.map (fun p => keyD p.1) → RepA K G (es.map (·.2)) (ks.map (·.2)) → RepB K G H (.dict es) (.ref a)
  | dT {a : Addr} {ks : List (List Key × V)} {es : List (PyData × PyData)} : H a = some (.dT ks) → es.map (·.1) = ks.map (fun p => keysD p.1) → RepA K G (es.map (·.2)) (ks.map (·.2)) → RepB K G H (.dict ((.none, .none) :: es)) (.ref a)
theorem RepB.mono {H' : Hp} (e : Ex G G') (e2 : Ex H H') {d : PyData} {v : V} (h : RepB K G H d v) : RepB K G' H' d v := by
  cases h with
  | val h => exact .val (h.mono e)
  | lst h r => exact .lst (e2 _ _ h) (r.mono e)
  | dK h k r => exact .dK (e2 _ _ h) k (r.mono e)
  | dT h k r => exact .dT (e2 _ _ h) k (r.mono e)

/-- the script, a list of ints that is read alone -/
def RepS (K : PySem.W.Frag) (H : Hp) (d : PyData) (v : V) : Prop := ∃ (a : Addr) (ns : List Int), v = .ref a ∧ d = .list (ns.map .int) ∧ SqL K H a (ns.map V.int)
theorem RepS.mono {H' : Hp} (e : Ex H H') {d : PyData} {v : V} (h : RepS K H d v) : RepS K H' d v := by
  obtain ⟨a, ns, e1, e2, q⟩ := h
  exact ⟨a, ns, e1, e2, e.sql q⟩
/-- what an own root holds -/
inductive Own (K : PySem.W.Frag) (G H : Hp) (a : Addr) : PyData → Prop
  | lst {vs : List V} {ds : List PyData} : H a = some (.lst vs) → RepA K G ds vs → Own K G H a (.list ds)
  | dK {ks : List (Key × V)} {es : List (PyData × PyData)} : H a = some (.dK ks) → es.map (·.1) = ks.map (fun p => keyD p.1) → RepA K G (es.map (·.2)) (ks.map (·.2)) → Own K G H a (.dict es)
  | dT {ks : List (List Key × V)} {es : List (PyData × PyData)} : H a = some (.dT ks) → es.map (·.1) = ks.map (fun p => keysD p.1) → RepA K G (es.map (·.2)) (ks.map (·.2)) → Own K G H a (.dict ((.none, .none) :: es))
theorem Own.mono {H' : Hp} {a : Addr} (e : Ex G G') (e2 : H' a = H a) {d : PyData} (h : Own K G H a d) : Own K G' H' a d := by
  cases h with
  | lst h r => exact .lst (e2.trans h) (r.mono e)
  | dK h k r => exact .dK (e2.trans h) k (r.mono e)
  | dT h k r => exact .dT (e2.trans h) k (r.mono e)
theorem Own.there {a : Addr} {d : PyData} (h : Own K G H a d) : ∃ o, H a = some o := by
  cases h with
  | lst h r => exact ⟨_, h⟩
  | dK h k r => exact ⟨_, h⟩
  | dT h k r => exact ⟨_, h⟩
theorem Own.bor {a : Addr} {d : PyData} (h : Own K G H a d) : RepB K G H d (.ref a) := by
  cases h with
  | lst h r => exact .lst h r
  | dK h k r => exact .dK h k r
  | dT h k r => exact .dT h k r
/-- frozen: the root goes over to G; a dict is locked then -/
def Lk (u u' : HO) : Prop := u' = u ∨ Mut (some u) ∧ ∃ od, u' = .frz od u
theorem Own.freeze {a : Addr} {d : PyData} (h : Own K G H a d) (n : G a = none) : ∃ u, H a = some u ∧ (Rep K (upd G a u) d (.ref a) ∨ Mut (some u) ∧ ∀ od, Rep K (upd G a (.frz od u)) d (.ref a)) := by
  cases h with
  | lst h r => exact ⟨_, h, .inl (.lst (.inl upd_same) (r.mono (Ex.new n)))⟩
  | dK h k r => exact ⟨_, h, .inr ⟨trivial, fun od => .dK ⟨od, upd_same⟩ k (r.mono (Ex.new n))⟩⟩
  | dT h k r => exact ⟨_, h, .inr ⟨trivial, fun od => .dT ⟨od, upd_same⟩ k (r.mono (Ex.new n))⟩⟩
end

/-! ### slots -/
inductive Slot where
  | un | val (d : PyData) | bor (d : PyData) | own (d : PyData) | scr (d : PyData) | pin (d : PyData)
abbrev Rho := List Slot
inductive Out where
  | nx (r : Rho) | rt (d : PyData) | bk (r : Rho) | ct (r : Rho)
abbrev SE := Rho → Option PyData
abbrev SB := Rho → Option Bool
abbrev SA := Rho → Option (List PyData)
abbrev SS := Rho → Option Out

/-- what may go over to G: what was not there, or a tuple -/
def Fresh : Option HO → Prop
  | none => True
  | some (.tup _) => True
  | _ => False
theorem Fresh.back {H H' : Hp} (e : Ex H H') {a : Addr} (h : Fresh (H' a)) : Fresh (H a) := by
  cases q : H a with
  | none => trivial
  | some o => rw [e _ _ q] at h; exact h
theorem Own.nofresh {K : PySem.W.Frag} {G H : Hp} {a : Addr} {d : PyData} (h : Own K G H a d) : ¬ Fresh (H a) := by
  cases h with
  | lst h r => rw [h]; exact id
  | dK h k r => rw [h]; exact id
  | dT h k r => rw [h]; exact id
theorem Fresh.of {H : Hp} {a : Addr} (h : H a = none) : Fresh (H a) := by rw [h]; trivial
/-- how the heaps grow within a call: G0, H0 at its entry -/
structure Gx (G0 H0 G H : Hp) : Prop where
  g : Ex G0 G
  h : Ex H0 H
  gh : Ex G H
  nw : ∀ a, G a ≠ none → G0 a ≠ none ∨ Fresh (H0 a)
/-- a call's start: its ghost heap, and the lists that are lent to a loop, by slot -/
structure Fr where
  g : Hp
  b : Hp
  pin : Nat → Option (Addr × List V)
inductive SlotOk (K : PySem.W.Frag) (B H0 G H : Hp) : Slot → Option V → Prop
  | un {v : Option V} : SlotOk K B H0 G H .un v
  | val {d : PyData} {v : V} : Rep K G d v → SlotOk K B H0 G H (.val d) (some v)
  | bor {d : PyData} {v : V} : RepB K G B d v → SlotOk K B H0 G H (.bor d) (some v)
  | own {d : PyData} {a : Addr} : H0 a = none → G a = none → Own K G H a d → SlotOk K B H0 G H (.own d) (some (.ref a))
  | scr {d : PyData} {v : V} : RepS K B d v → SlotOk K B H0 G H (.scr d) (some v)
  | pin {d : PyData} {v : Option V} : SlotOk K B H0 G H (.pin d) v
structure Sok (K : PySem.W.Frag) (G0 : Fr) (H0 G : Hp) (ρ : Rho) (σ : St) (H : Hp) : Prop where
  gx : Gx G0.g H0 G H
  len : σ.length = ρ.length
  slot : ∀ (i : Nat) (s : Slot), ρ[i]? = some s → SlotOk K G0.b H0 G H s (σ[i]?.getD none)
  apart : ∀ (i j : Nat) (d e : PyData) (a : Addr), i ≠ j → ρ[i]? = some (.own d) → ρ[j]? = some (.own e) → σ[i]? = some (some (.ref a)) → σ[j]? ≠ some (some (.ref a))
  pins : ∀ (i : Nat) (d : PyData), ρ[i]? = some (.pin d) → ∃ a vs ds, G0.pin i = some (a, vs) ∧ σ[i]? = some (some (.ref a)) ∧ d = .list ds ∧ RepA K G ds vs
  base : Ex G0.b H0
  wf : ∀ (i : Nat) (a : Addr) (vs : List V), G0.pin i = some (a, vs) → H0 a = some (.lst vs)
section
variable {K : PySem.W.Frag} {G0 : Fr} {H0 G H G' H' : Hp} {ρ : Rho} {σ : St}
theorem getD_some {σ : L2.St} {i : Nat} {v : V} (h : σ[i]?.getD none = some v) : σ[i]? = some (some v) := by
  cases e : σ[i]? with
  | none => rw [e] at h; cases h
  | some o => rw [e] at h; exact congrArg _ h
/-- the heaps have grown, the slots are as they were -/
theorem Sok.grow (s : Sok K G0 H0 G ρ σ H) (e : Ex G G') (e2 : Ex H H') (e3 : Ex G' H') (nw : ∀ a, G' a ≠ none → G a ≠ none ∨ Fresh (H a)) : Sok K G0 H0 G' ρ σ H' := by
  refine ⟨⟨s.gx.g.trans e, s.gx.h.trans e2, e3, fun a ha => ?_⟩, s.len, fun i q hi => ?_, s.apart, fun i d hi => (s.pins i d hi).imp fun a h => h.imp fun vs h => h.imp fun ds ⟨p1, p2, p3, p4⟩ => ⟨p1, p2, p3, p4.mono e⟩, s.base, s.wf⟩
  · rcases nw a ha with h | h
    · exact s.gx.nw a h
    · exact .inr (h.back s.gx.h)
  · have h := s.slot i q hi
    revert h
    generalize σ[i]?.getD none = w
    intro h
    cases h with
    | un => exact .un
    | val h => exact .val (h.mono e)
    | bor h => exact .bor (h.mono e (Ex.refl _))
    | scr h => exact .scr h
    | pin => exact .pin
    | own h1 h2 h3 =>
      obtain ⟨o, ho⟩ := h3.there
      refine .own h1 ?_ (h3.mono e ((e2 _ _ ho).trans ho.symm))
      cases q : G' _ with
      | none => rfl
      | some u =>
        rcases nw _ (by rw [q]; simp) with z | z
        · exact absurd h2 z
        · exact absurd z h3.nofresh
theorem Gx.refl (e : Ex G H) : Gx G H G H := ⟨Ex.refl _, Ex.refl _, e, fun _ h => .inl h⟩
theorem Gx.trans {G1 H1 G2 H2 G3 H3 : Hp} (a : Gx G1 H1 G2 H2) (b : Gx G2 H2 G3 H3) : Gx G1 H1 G3 H3 :=
  ⟨a.g.trans b.g, a.h.trans b.h, b.gh, fun x hx => (b.nw x hx).elim (a.nw x) fun z => .inr (z.back a.h)⟩
theorem Sok.gx' (s : Sok K G0 H0 G ρ σ H) (x : Gx G H G' H') : Sok K G0 H0 G' ρ σ H' := s.grow x.g x.h x.gh x.nw
/-- a new object that goes to G -/
theorem Gx.new {p : Addr} {o : HO} (e : Ex G H) (n : H p = none) : Gx G H (upd G p o) (upd H p o) := by
  have n2 := e.back n
  refine ⟨Ex.new n2, Ex.new n, e.upd2, fun a ha => ?_⟩
  by_cases q : a = p
  · subst q; exact .inr (.of n)
  · rw [upd_ne q] at ha; exact .inl ha
/-- a new object that is nobody's yet -/
theorem Gx.mine {p : Addr} {o : HO} (e : Ex G H) (n : H p = none) : Gx G H G (upd H p o) := ⟨Ex.refl _, Ex.new n, e.trans (Ex.new n), fun _ h => .inl h⟩
end

/-! ### what an expression gives -/
inductive Md where
  | val | par | bor | new | scr
  deriving DecidableEq
def RM (K : PySem.W.Frag) (H0 Hs : Hp) : Md → Hp → Hp → PyData → V → Prop
  | .val, G, _, d, v => Rep K G d v
  | .par, G, _, d, v => RepB K G H0 d v
  | .bor, G, H, d, v => RepB K G H d v
  | .new, G, H, d, v => ∃ p, v = .ref p ∧ Hs p = none ∧ G p = none ∧ Own K G H p d
  | .scr, _, H, d, v => RepS K H d v
section
variable {K : PySem.W.Frag} {G9 H0 G H G' H' Hs : Hp} {G0 : Fr} {ρ : Rho} {σ : L2.St} {d : PyData} {v : V}
theorem RM.mono {m : Md} (x : Gx G H G' H') (h : RM K H0 Hs m G H d v) : RM K H0 Hs m G' H' d v := by
  cases m with
  | val => exact Rep.mono x.g h
  | par => exact RepB.mono x.g (Ex.refl _) h
  | bor => exact RepB.mono x.g x.h h
  | scr => exact RepS.mono x.h h
  | new =>
    obtain ⟨p, e, n, g, o⟩ := h
    obtain ⟨u, hu⟩ := o.there
    refine ⟨p, e, n, ?_, o.mono x.g ((x.h _ _ hu).trans hu.symm)⟩
    cases q : G' p with
    | none => rfl
    | some w =>
      rcases x.nw p (by rw [q]; simp) with z | z
      · exact absurd g z
      · exact absurd z o.nofresh
theorem RM.start {m : Md} {H1 : Hp} (e : Ex H1 Hs) (h : RM K H0 Hs m G H d v) : RM K H0 H1 m G H d v := by
  cases m with
  | val => exact h
  | par => exact h
  | bor => exact h
  | scr => exact h
  | new =>
    obtain ⟨p, e1, n, g, o⟩ := h
    exact ⟨p, e1, e.back n, g, o⟩
theorem RM.bor {m : Md} (hm : m ≠ .scr) (e : Ex H0 H) (h : RM K H0 Hs m G H d v) : RepB K G H d v := by
  cases m with
  | val => exact .val h
  | par => exact RepB.mono (Ex.refl _) e h
  | bor => exact h
  | scr => exact absurd rfl hm
  | new =>
    obtain ⟨p, rfl, n, g, o⟩ := h
    exact o.bor
/-- frozen: a new one goes over to G -/
theorem Gx.put {p : Addr} {u : HO} (x : Gx G9 Hs G H) (n : Hs p = none) (g : G p = none) : Gx G9 Hs (upd G p u) (upd H p u) := by
  refine ⟨x.g.trans (Ex.new g), fun a w hw => ?_, fun a w hw => ?_, fun a ha => ?_⟩
  · rw [upd_ne (ne_of_none hw n)]; exact x.h a w hw
  · by_cases q : a = p
    · subst q; rw [upd_same] at hw ⊢; exact hw
    · rw [upd_ne q] at hw ⊢; exact x.gh a w hw
  · by_cases q : a = p
    · subst q; exact .inr (.of n)
    · rw [upd_ne q] at ha; exact x.nw a ha
theorem upd_id {H : Hp} {p : Addr} {u : HO} (h : H p = some u) : upd H p u = H := by
  funext a
  by_cases q : a = p
  · subst q; rw [upd_same, h]
  · rw [upd_ne q]
theorem RM.freeze (x : Gx G9 Hs G H) (h : RM K H0 Hs .new G H d v) : ∃ p u, v = .ref p ∧ H p = some u ∧ ((∃ G', Gx G9 Hs G' H ∧ Ex G G' ∧ Rep K G' d v) ∨ Mut (some u) ∧ ∀ od, ∃ G', Gx G9 Hs G' (upd H p (.frz od u)) ∧ Ex G G' ∧ Rep K G' d v) := by
  obtain ⟨p, rfl, n, g, o⟩ := h
  obtain ⟨u, hu, r⟩ := o.freeze g
  refine ⟨p, u, rfl, hu, r.imp (fun r => ⟨upd G p u, ?_, Ex.new g, r⟩) fun ⟨mu, r⟩ => ⟨mu, fun od => ⟨_, x.put n g, Ex.new g, r od⟩⟩⟩
  have := x.put (u := u) n g
  rw [upd_id hu] at this
  exact this
/-- .. a list -/
theorem RM.freezeL {ds : List PyData} (x : Gx G9 Hs G H) (h : RM K H0 Hs .new G H (.list ds) v) : ∃ G', Gx G9 Hs G' H ∧ Ex G G' ∧ Rep K G' (.list ds) v := by
  obtain ⟨p, rfl, n, g, o⟩ := h
  cases o with
  | @lst vs _ h r =>
    refine ⟨_, ?_, Ex.new g, .lst (.inl upd_same) (r.mono (Ex.new g))⟩
    have := x.put (u := .lst vs) n g
    rw [upd_id h] at this
    exact this

/-! ### slots are stored -/
theorem getD_set {σ : L2.St} {i j : Nat} {o : Option V} (hi : i < σ.length) : (σ.set i o)[j]?.getD none = if j = i then o else σ[j]?.getD none := by
  by_cases h : j = i
  · subst h; rw [if_pos rfl, List.getElem?_set_self hi]; rfl
  · rw [if_neg h, List.getElem?_set_ne (Ne.symm h)]
theorem Sok.put (s : Sok K G0 H0 G ρ σ H) {i : Nat} {t : Slot} {o : Option V} (hi : i < ρ.length) (h : SlotOk K G0.b H0 G H t o)
    (ap : ∀ d a, t = .own d → o = some (.ref a) → ∀ j e, j ≠ i → ρ[j]? = some (.own e) → σ[j]? ≠ some (some (.ref a))) (np : ∀ d, t ≠ .pin d := by intro _ z; cases z) : Sok K G0 H0 G (ρ.set i t) (σ.set i o) H := by
  have hi' : i < σ.length := by rw [s.len]; exact hi
  refine ⟨s.gx, by rw [List.length_set, List.length_set, s.len], fun j q hj => ?_, fun j k d e a hjk h1 h2 h3 h4 => ?_, fun j d hj => ?_, s.base, s.wf⟩
  · rw [getD_set hi']
    by_cases z : j = i
    · subst z
      rw [List.getElem?_set_self hi] at hj
      cases hj
      rw [if_pos rfl]; exact h
    · rw [List.getElem?_set_ne (Ne.symm z)] at hj
      rw [if_neg z]; exact s.slot j q hj
  · by_cases z : j = i
    · subst z
      rw [List.getElem?_set_self hi] at h1
      cases h1
      rw [List.getElem?_set_self hi'] at h3
      cases h3
      rw [List.getElem?_set_ne (fun z => hjk z)] at h2 h4
      exact ap d a rfl rfl k e (fun z => hjk z.symm) h2 h4
    · rw [List.getElem?_set_ne (Ne.symm z)] at h1 h3
      by_cases y : k = i
      · subst y
        rw [List.getElem?_set_self hi] at h2
        cases h2
        rw [List.getElem?_set_self hi'] at h4
        cases h4
        exact ap e a rfl rfl j d z h1 h3
      · rw [List.getElem?_set_ne (Ne.symm y)] at h2 h4
        exact s.apart j k d e a hjk h1 h2 h3 h4
  · by_cases z : j = i
    · subst z
      rw [List.getElem?_set_self hi] at hj
      cases hj
      exact absurd rfl (np d)
    · rw [List.getElem?_set_ne (Ne.symm z)] at hj ⊢
      exact s.pins j d hj
theorem Sok.setVal (s : Sok K G0 H0 G ρ σ H) {i : Nat} (hi : i < ρ.length) (h : Rep K G d v) : Sok K G0 H0 G (ρ.set i (.val d)) (σ.set i (some v)) H :=
  s.put hi (.val h) fun _ _ e => by cases e
theorem Sok.setUn (s : Sok K G0 H0 G ρ σ H) {i : Nat} (hi : i < ρ.length) (o : Option V) : Sok K G0 H0 G (ρ.set i .un) (σ.set i o) H :=
  s.put hi .un fun _ _ e => by cases e
/-- the root of an own slot -/
theorem Sok.own (s : Sok K G0 H0 G ρ σ H) {i : Nat} (h : ρ[i]? = some (.own d)) : ∃ a, σ[i]? = some (some (.ref a)) ∧ H0 a = none ∧ G a = none ∧ Own K G H a d := by
  have q := s.slot i _ h
  generalize e : σ[i]?.getD none = w at q
  cases q with
  | own h1 h2 h3 => exact ⟨_, getD_some e, h1, h2, h3⟩
theorem Sok.setOwn (s : Sok K G0 H0 G ρ σ H) (x : Gx G H G' H') {i : Nat} (hi : i < ρ.length) (h : RM K H0 H .new G' H' d v) : Sok K G0 H0 G' (ρ.set i (.own d)) (σ.set i (some v)) H' := by
  obtain ⟨p, rfl, n, g, o⟩ := h
  refine (s.gx' x).put hi (.own (s.gx.h.back n) g o) fun d' a e1 e2 j e hj h1 h2 => ?_
  cases e2
  obtain ⟨b, k1, _, _, k4⟩ := s.own h1
  obtain ⟨u, hu⟩ := k4.there
  rw [h2] at k1; cases k1
  rw [n] at hu; cases hu
/-- an own object changes -/
theorem Sok.write (s : Sok K G0 H0 G ρ σ H) {i : Nat} {a : Addr} {o : HO} {d' : PyData} (h : ρ[i]? = some (.own d)) (ha : σ[i]? = some (some (.ref a))) (hn : H0 a = none) (hg : G a = none) (ow : Own K G (upd H a o) a d') : Sok K G0 H0 G (ρ.set i (.own d')) σ (upd H a o) := by
  have hi : i < ρ.length := (List.getElem?_eq_some_iff.mp h).1
  refine ⟨⟨s.gx.g, s.gx.h.mut hn, s.gx.gh.mut hg, s.gx.nw⟩, by rw [List.length_set]; exact s.len, fun j q hj => ?_, fun j k d1 e b hjk h1 h2 h3 h4 => ?_, fun j d hj => ?_, s.base, s.wf⟩
  · by_cases z : j = i
    · subst z
      rw [List.getElem?_set_self hi] at hj
      cases hj
      rw [ha]
      exact .own hn hg ow
    · rw [List.getElem?_set_ne (Ne.symm z)] at hj
      have q2 := s.slot j q hj
      generalize e : σ[j]?.getD none = w at q2
      cases q2 with
      | un => exact .un
      | val h => exact .val h
      | bor h => exact .bor h
      | scr h => exact .scr h
      | pin => exact .pin
      | own k1 k2 k3 =>
        refine .own k1 k2 (k3.mono (Ex.refl _) ?_)
        rw [upd_ne]
        rintro rfl
        exact s.apart i j _ _ _ (fun z' => z z'.symm) h hj ha (getD_some e)
  · have own_of : ∀ {j : Nat} {e : PyData}, (ρ.set i (.own d'))[j]? = some (.own e) → ∃ e', ρ[j]? = some (.own e') := fun {j e} q => by
      by_cases z : j = i
      · subst z; exact ⟨_, h⟩
      · rw [List.getElem?_set_ne (Ne.symm z)] at q; exact ⟨_, q⟩
    obtain ⟨_, q1⟩ := own_of h1
    obtain ⟨_, q2⟩ := own_of h2
    exact s.apart j k _ _ b hjk q1 q2 h3 h4
  · by_cases z : j = i
    · subst z
      rw [List.getElem?_set_self hi] at hj; cases hj
    · rw [List.getElem?_set_ne (Ne.symm z)] at hj; exact s.pins j d hj
/-- an own object is frozen -/
theorem Sok.freezeU (s : Sok K G0 H0 G ρ σ H) {i : Nat} {a : Addr} {u : HO} (h : ρ[i]? = some (.own d)) (ha : σ[i]? = some (some (.ref a))) (hn : H0 a = none) (hg : G a = none) (r : Rep K (upd G a u) d (.ref a)) :
    Ex G (upd G a u) ∧ Sok K G0 H0 (upd G a u) (ρ.set i (.val d)) σ (upd H a u) := by
  have hi : i < ρ.length := (List.getElem?_eq_some_iff.mp h).1
  have gx : Gx G0.g H0 (upd G a u) (upd H a u) := s.gx.put hn hg
  refine ⟨Ex.new hg, gx, by rw [List.length_set]; exact s.len, fun j q hj => ?_, fun j k d1 e b hjk h1 h2 h3 h4 => ?_, fun j d hj => ?_, s.base, s.wf⟩
  · by_cases z : j = i
    · subst z
      rw [List.getElem?_set_self hi] at hj
      cases hj
      rw [ha]
      exact .val r
    · rw [List.getElem?_set_ne (Ne.symm z)] at hj
      have q2 := s.slot j q hj
      generalize e : σ[j]?.getD none = w at q2
      cases q2 with
      | un => exact .un
      | val h => exact .val (h.mono (Ex.new hg))
      | bor h => exact .bor (h.mono (Ex.new hg) (Ex.refl _))
      | scr h => exact .scr h
      | pin => exact .pin
      | @own d2 c k1 k2 k3 =>
        have ne : c ≠ a := by
          rintro rfl
          exact s.apart i j _ _ _ (fun z' => z z'.symm) h hj ha (getD_some e)
        refine .own k1 ?_ (k3.mono (Ex.new hg) (upd_ne ne))
        rw [upd_ne ne]
        exact k2
  · have own_of : ∀ {j : Nat} {e : PyData}, (ρ.set i (.val d))[j]? = some (.own e) → ρ[j]? = some (.own e) := fun {j e} q => by
      by_cases z : j = i
      · subst z; rw [List.getElem?_set_self hi] at q; cases q
      · rw [List.getElem?_set_ne (Ne.symm z)] at q; exact q
    exact s.apart j k _ _ b hjk (own_of h1) (own_of h2) h3 h4
  · by_cases z : j = i
    · subst z
      rw [List.getElem?_set_self hi] at hj; cases hj
    · rw [List.getElem?_set_ne (Ne.symm z)] at hj; exact (s.pins j d hj).imp fun a h => h.imp fun vs h => h.imp fun ds ⟨p1, p2, p3, p4⟩ => ⟨p1, p2, p3, p4.mono (Ex.new hg)⟩
theorem Sok.freeze (s : Sok K G0 H0 G ρ σ H) {i : Nat} (h : ρ[i]? = some (.own d)) : ∃ a u, H a = some u ∧ ((∃ G', Ex G G' ∧ Sok K G0 H0 G' (ρ.set i (.val d)) σ H) ∨ Mut (some u) ∧ ∀ od, ∃ G', Ex G G' ∧ Sok K G0 H0 G' (ρ.set i (.val d)) σ (upd H a (.frz od u))) := by
  obtain ⟨a, ha, hn, hg, ow⟩ := s.own h
  obtain ⟨u, hu, r⟩ := ow.freeze hg
  refine ⟨a, u, hu, r.imp (fun r => ⟨upd G a u, ?_⟩) fun ⟨mu, r⟩ => ⟨mu, fun od => ⟨_, s.freezeU h ha hn hg (r od)⟩⟩⟩
  have := s.freezeU (u := u) h ha hn hg (by assumption)
  rw [upd_id hu] at this
  exact this
end
end DV

namespace DV
open PySem L2
theorem _root_.L2.PE.imp {X : Cx} {e : Expr} {t t' : TE} (h : PE X e t) (w : ∀ σ H Q, t' σ H Q → t σ H Q) : PE X e t' := ⟨fun pins s σ H Q I q => h.run pins s σ H Q I (w σ H Q q)⟩
theorem _root_.L2.PT.imp {X : Cx} {e : Expr} {t t' : TT} (h : PT X e t) (w : ∀ σ H Q, t' σ H Q → t σ H Q) : PT X e t' := ⟨fun pins s σ H Q I q => h.run pins s σ H Q I (w σ H Q q)⟩
theorem _root_.L2.PW.imp {X : Cx} {e : Expr} {t t' : TT} (h : PW X e t) (w : ∀ σ H Q, t' σ H Q → t σ H Q) : PW X e t' := ⟨fun wh pins s σ H Q I q => h.run wh pins s σ H Q I (w σ H Q q)⟩
theorem _root_.L2.PA.imp {X : Cx} {e : List Expr} {t t' : TA} (h : PA X e t) (w : ∀ σ H Q, t' σ H Q → t σ H Q) : PA X e t' := ⟨fun pos pins s σ H Q I q => h.run pos pins s σ H Q I (w σ H Q q)⟩
theorem _root_.L2.PS.imp {X : Cx} {e : Stmt} {t t' : TS} (h : PS X e t) (w : ∀ D σ H, t' D σ H → t D σ H) : PS X e t' := ⟨fun pins s σ H D I q => h.run pins s σ H D I (w D σ H q)⟩
theorem _root_.L2.PSs.imp {X : Cx} {e : List Stmt} {t t' : TS} (h : PSs X e t) (w : ∀ D σ H, t' D σ H → t D σ H) : PSs X e t' := ⟨fun pins s σ H D I q => h.run pins s σ H D I (w D σ H q)⟩

/-! ### expressions, tests, arguments -/
def tE (K : PySem.W.Frag) (m : Md) (f : SE) : TE := fun σ H Q => ∃ G0 H0 G ρ d, Sok K G0 H0 G ρ σ H ∧ f ρ = some d ∧ ∀ G' H' v, Gx G H G' H' → RM K H0 H m G' H' d v → Q v H'
def tT (K : PySem.W.Frag) (f : SB) : TT := fun σ H Q => ∃ G0 H0 G ρ d, Sok K G0 H0 G ρ σ H ∧ f ρ = some d ∧ ∀ G' H', Gx G H G' H' → Q d H'
inductive RMs (K : PySem.W.Frag) (H0 Hs G H : Hp) : List Md → List PyData → List V → Prop
  | nil : RMs K H0 Hs G H [] [] []
  | cons {m : Md} {ms : List Md} {d : PyData} {ds : List PyData} {v : V} {vs : List V} : RM K H0 Hs m G H d v → RMs K H0 Hs G H ms ds vs → RMs K H0 Hs G H (m :: ms) (d :: ds) (v :: vs)
def tA (K : PySem.W.Frag) (ms : List Md) (f : SA) : TA := fun σ H Q => ∃ G0 H0 G ρ ds, Sok K G0 H0 G ρ σ H ∧ f ρ = some ds ∧ ∀ G' H' vs, Gx G H G' H' → RMs K H0 H G' H' ms ds vs → Q vs H'
structure DX (X : Cx) (m : Md) (e : Expr) (f : SE) : Prop where
  pe : PE X e (tE X.K m f)
structure DT (X : Cx) (e : Expr) (f : SB) : Prop where
  pt : PT X e (tT X.K f)
structure DW (X : Cx) (e : Expr) (f : SB) : Prop where
  pw : PW X e (tT X.K f)
structure DA (X : Cx) (ms : List Md) (es : List Expr) (f : SA) : Prop where
  pa : PA X es (tA X.K ms f)
section
variable {K : PySem.W.Frag} {G0 H0 G H G' H' Hs : Hp} {ρ : Rho} {σ : L2.St} {d : PyData} {v : V}
theorem RMs.mono (x : Gx G H G' H') : ∀ {ms : List Md} {ds : List PyData} {vs : List V}, RMs K H0 Hs G H ms ds vs → RMs K H0 Hs G' H' ms ds vs
  | _, _, _, .nil => .nil
  | _, _, _, .cons h t => .cons (h.mono x) (t.mono x)
theorem RMs.start {H1 : Hp} (e : Ex H1 Hs) : ∀ {ms : List Md} {ds : List PyData} {vs : List V}, RMs K H0 Hs G H ms ds vs → RMs K H0 H1 G H ms ds vs
  | _, _, _, .nil => .nil
  | _, _, _, .cons h t => .cons (h.start e) (t.start e)
theorem RMs.vals : ∀ {ms : List Md} {ds : List PyData} {vs : List V}, (∀ m ∈ ms, m = .val) → RMs K H0 Hs G H ms ds vs → RepA K G ds vs
  | _, _, _, _, .nil => .nil
  | m :: _, _, _, q, .cons h t => by
    have e : m = .val := q m List.mem_cons_self
    subst e
    exact .cons h (RMs.vals (fun m hm => q m (List.mem_cons_of_mem _ hm)) t)
end
section
variable {X : Cx} {e a b c : Expr} {m : Md} {f g h : SE} {pos : Pos}

/-! ### modes -/
/-- behind it a dict may be locked for good -/
def tFz (t : TE) : TE := fun σ H Q => t σ H fun x H1 => Q x H1 ∨ ∃ d u, H1 d = some u ∧ Mut (some u) ∧ ∀ od, Q x (upd H1 d (.frz od u))
theorem pe_fz {t : TE} (h : PE X e t) : PE X e (tFz t) := ⟨fun pins s σ H Q I q => thn (h.run pins s σ H _ I q) fun u s1 ⟨x, H1, I1, rx, q1⟩ => by
  rcases q1 with q1 | ⟨d, w, hd, mu, q1⟩
  · exact ⟨x, H1, I1, rx, q1⟩
  · obtain ⟨od, I2⟩ := I1.lock hd mu
    exact ⟨x, _, I2, rx, q1 od⟩⟩
theorem d_fz (h : DX X .new e f) : DX X .val e f := ⟨(pe_fz h.pe).imp fun σ H Q ⟨G0, H0, G, ρ, d, s, ed, q⟩ => ⟨G0, H0, G, ρ, d, s, ed, fun G' H' v x r => by
  obtain ⟨p, u, e1, e2, r⟩ := RM.freeze x r
  rcases r with ⟨G2, x2, _, r2⟩ | ⟨mu, r⟩
  · exact .inl (q G2 H' v x2 r2)
  · exact .inr ⟨p, u, e2, mu, fun od => (r od).elim fun G2 z => q G2 _ v z.1 z.2.2⟩⟩⟩
theorem d_b (h : DX X m e f) (hm : m ≠ .scr := by decide) : DX X .bor e f := ⟨h.pe.imp fun σ H Q ⟨G0, H0, G, ρ, d, s, ed, q⟩ => ⟨G0, H0, G, ρ, d, s, ed, fun G' H' v x r => q G' H' v x (r.bor hm (s.gx.h.trans x.h))⟩⟩

theorem if_some {c : Prop} [Decidable c] {α : Type} {a b : α} (h : (if c then some a else none) = some b) : c ∧ a = b := by
  split at h
  · exact ⟨by assumption, Option.some.inj h⟩
  · cases h
/-! ### names and constants -/
def eV (i : Nat) : SE := fun ρ => match ρ[i]? with
  | some (.val d) => some d
  | _ => none
def eB (i : Nat) : SE := fun ρ => match ρ[i]? with
  | some (.val d) => some d
  | some (.bor d) => some d
  | some (.own d) => some d
  | some (.pin d) => some d
  | _ => none
def eK (d : PyData) : SE := fun _ => some d
theorem d_var (i : Nat) {x : Str} {pos : Pos} (hN : X.N[i]? = some x := by rfl) (hv : Vis X.env.scope x := by first | exact Or.inl rfl | exact Or.inr (Or.inl rfl) | exact Or.inr (Or.inr rfl)) (hd : (x == ("__debug__" : Str)) = false := by decide)
    (hcd : (x == ("__classdict__" : Str)) = false := by decide) : DX X .val (.Name x pos) (eV i) := ⟨(pe_var hN hv hd hcd).imp fun σ H Q ⟨G0, H0, G, ρ, d, s, ed, q⟩ => by
  unfold eV at ed
  cases e1 : ρ[i]? with
  | none => rw [e1] at ed; cases ed
  | some t =>
    rw [e1] at ed
    have h := s.slot i t e1
    cases t with
    | val d' =>
      cases ed
      generalize e2 : σ[i]?.getD none = w at h
      cases h with
      | val h => exact ⟨_, getD_some e2, q G H _ (Gx.refl s.gx.gh) h⟩
    | un => cases ed
    | bor _ => cases ed
    | scr _ => cases ed
    | own _ => cases ed
    | pin _ => cases ed⟩
theorem d_varb (i : Nat) {x : Str} {pos : Pos} (hN : X.N[i]? = some x := by rfl) (hv : Vis X.env.scope x := by first | exact Or.inl rfl | exact Or.inr (Or.inl rfl) | exact Or.inr (Or.inr rfl)) (hd : (x == ("__debug__" : Str)) = false := by decide)
    (hcd : (x == ("__classdict__" : Str)) = false := by decide) : DX X .bor (.Name x pos) (eB i) := ⟨(pe_var hN hv hd hcd).imp fun σ H Q ⟨G0, H0, G, ρ, d, s, ed, q⟩ => by
  unfold eB at ed
  cases e1 : ρ[i]? with
  | none => rw [e1] at ed; cases ed
  | some t =>
    rw [e1] at ed
    have h := s.slot i t e1
    generalize e2 : σ[i]?.getD none = w at h
    cases t with
    | un => cases ed
    | val d' =>
      cases ed
      cases h with
      | val h => exact ⟨_, getD_some e2, q G H _ (Gx.refl s.gx.gh) (.val h)⟩
    | bor d' =>
      cases ed
      cases h with
      | bor h => exact ⟨_, getD_some e2, q G H _ (Gx.refl s.gx.gh) (h.mono (Ex.refl _) (s.base.trans s.gx.h))⟩
    | scr _ => cases ed
    | own d' =>
      cases ed
      cases h with
      | own h1 h2 h3 => exact ⟨_, getD_some e2, q G H _ (Gx.refl s.gx.gh) h3.bor⟩
    | pin d' =>
      cases ed
      obtain ⟨a, vs, ds, p1, p2, rfl, p4⟩ := s.pins i _ e1
      exact ⟨_, p2, q G H _ (Gx.refl s.gx.gh) (.lst (s.gx.h _ _ (s.wf _ _ _ p1)) p4)⟩⟩
/-- a name that holds an argument (or a frozen thing): it stays as it is through the call -/
def eP (i : Nat) : SE := fun ρ => match ρ[i]? with
  | some (.val d) => some d
  | some (.bor d) => some d
  | some (.pin d) => some d
  | _ => none
theorem d_varp (i : Nat) {x : Str} {pos : Pos} (hN : X.N[i]? = some x := by rfl) (hv : Vis X.env.scope x := by first | exact Or.inl rfl | exact Or.inr (Or.inl rfl) | exact Or.inr (Or.inr rfl)) (hd : (x == ("__debug__" : Str)) = false := by decide)
    (hcd : (x == ("__classdict__" : Str)) = false := by decide) : DX X .par (.Name x pos) (eP i) := ⟨(pe_var hN hv hd hcd).imp fun σ H Q ⟨G0, H0, G, ρ, d, s, ed, q⟩ => by
  unfold eP at ed
  cases e1 : ρ[i]? with
  | none => rw [e1] at ed; cases ed
  | some t =>
    rw [e1] at ed
    have h := s.slot i t e1
    generalize e2 : σ[i]?.getD none = w at h
    cases t with
    | un => cases ed
    | val d' =>
      cases ed
      cases h with
      | val h => exact ⟨_, getD_some e2, q G H _ (Gx.refl s.gx.gh) (.val h)⟩
    | bor d' =>
      cases ed
      cases h with
      | bor h => exact ⟨_, getD_some e2, q G H _ (Gx.refl s.gx.gh) (h.mono (Ex.refl _) s.base)⟩
    | scr _ => cases ed
    | pin d' =>
      cases ed
      obtain ⟨a, vs, ds, p1, p2, rfl, p4⟩ := s.pins i _ e1
      exact ⟨_, p2, q G H _ (Gx.refl s.gx.gh) (.lst (s.wf _ _ _ p1) p4)⟩
    | own d' => cases ed⟩
/-- the script -/
def eS (i : Nat) : SE := fun ρ => match ρ[i]? with
  | some (.scr d) => some d
  | _ => none
theorem d_vars (i : Nat) {x : Str} {pos : Pos} (hN : X.N[i]? = some x := by rfl) (hv : Vis X.env.scope x := by first | exact Or.inl rfl | exact Or.inr (Or.inl rfl) | exact Or.inr (Or.inr rfl)) (hd : (x == ("__debug__" : Str)) = false := by decide)
    (hcd : (x == ("__classdict__" : Str)) = false := by decide) : DX X .scr (.Name x pos) (eS i) := ⟨(pe_var hN hv hd hcd).imp fun σ H Q ⟨G0, H0, G, ρ, d, s, ed, q⟩ => by
  unfold eS at ed
  split at ed
  · rename_i d' h
    cases ed
    have z := s.slot i _ h
    generalize e2 : σ[i]?.getD none = w at z
    cases z with
    | scr h => exact ⟨_, getD_some e2, q G H _ (Gx.refl s.gx.gh) (h.mono (s.base.trans s.gx.h))⟩
  · cases ed⟩
theorem d_const {v : V} {d : PyData} (h : PE X e (tC v)) (r : ∀ G, Rep X.K G d v) : DX X .val e (eK d) := ⟨h.imp fun σ H Q ⟨G0, H0, G, ρ, d', s, ed, q⟩ => by
  cases ed
  exact q G H v (Gx.refl s.gx.gh) (r G)⟩
theorem d_int {i j pos} : DX X .val (.Constant (.int i) j pos) (eK (.int i)) := d_const pe_int fun _ => .int i
theorem d_bl {b j pos} : DX X .val (.Constant (.bool b) j pos) (eK (.bool b)) := d_const pe_bl fun _ => .bl b
theorem d_non {j pos} : DX X .val (.Constant .none j pos) (eK .none) := d_const pe_non fun _ => .non
theorem d_str {x j pos} : DX X .val (.Constant (.str x) j pos) (eK (.str x)) := d_const pe_str fun _ => .str x

/-! ### operators -/
/-- a partial function on data that the rule r keeps -/
def OpF (K : PySem.W.Frag) (m : Md) (r : R2) (F : PyData → PyData → Option PyData) : Prop :=
  ∀ (G H : Hp) (d1 d2 d : PyData) (x y : V) (Q : VK), Ex G H → RepB K G H d1 x → RepB K G H d2 y → F d1 d2 = some d → (∀ G' H' v, Gx G H G' H' → (∀ H0, RM K H0 H m G' H' d v) → Q v H') → r x y H Q
def UnF (K : PySem.W.Frag) (m : Md) (r : V → Hp → VK → Prop) (F : PyData → Option PyData) : Prop :=
  ∀ (G H : Hp) (d1 d : PyData) (x : V) (Q : VK), Ex G H → RepB K G H d1 x → F d1 = some d → (∀ G' H' v, Gx G H G' H' → (∀ H0, RM K H0 H m G' H' d v) → Q v H') → r x H Q
def eOp (F : PyData → PyData → Option PyData) (f g : SE) : SE := fun ρ => (f ρ).bind fun x => (g ρ).bind fun y => F x y
def eUn (F : PyData → Option PyData) (f : SE) : SE := fun ρ => (f ρ).bind F
theorem bind_some {α β : Type} {o : Option α} {k : α → Option β} {b : β} (h : o.bind k = some b) : ∃ a, o = some a ∧ k a = some b := by
  cases o with
  | none => cases h
  | some a => exact ⟨a, rfl, h⟩
/-- the two places of an operator -/
theorem op_two {r : R2} {F : PyData → PyData → Option PyData} (hF : OpF X.K m r F) {σ : L2.St} {H : Hp} {Q : VK} (q : tE X.K m (eOp F f g) σ H Q) : tOp r (tE X.K .bor f) (tE X.K .bor g) σ H Q := by
  obtain ⟨G0, H0, G, ρ, d, s, ed, q⟩ := q
  obtain ⟨d1, e1, ed⟩ := bind_some ed
  obtain ⟨d2, e2, ed⟩ := bind_some ed
  refine ⟨G0, H0, G, ρ, d1, s, e1, fun G1 H1 x gx1 r1 => ⟨G0, H0, G1, ρ, d2, s.gx' gx1, e2, fun G2 H2 y gx2 r2 => ?_⟩⟩
  have gx := gx1.trans gx2
  exact hF G2 H2 d1 d2 d x y Q gx2.gh (RM.mono (m := .bor) (H0 := H0) (Hs := H) gx2 r1) r2 ed fun G3 H3 v gx3 r3 => q G3 H3 v (gx.trans gx3) ((r3 H0).start gx.h)
theorem d_op {op : Operator} {r : R2} {F : PyData → PyData → Option PyData} (ho : OpR X (binaryOp op) r) (hF : OpF X.K m r F) (ha : DX X .bor a f) (hb : DX X .bor b g) : DX X m (.BinOp a op b pos) (eOp F f g) :=
  ⟨(pe_op ho ha.pe hb.pe).imp fun _ _ _ q => op_two hF q⟩
theorem d_un {op : UnaryOp} {r : V → Hp → VK → Prop} {F : PyData → Option PyData} (ho : UnR X (unaryOp op) r) (hF : UnF X.K m r F) (ha : DX X .bor a f) : DX X m (.UnaryOp op a pos) (eUn F f) :=
  ⟨(pe_un ho ha.pe).imp fun σ H Q ⟨G0, H0, G, ρ, d, s, ed, q⟩ => by
    obtain ⟨d1, e1, ed⟩ := bind_some ed
    exact ⟨G0, H0, G, ρ, d1, s, e1, fun G1 H1 x gx1 r1 => hF G1 H1 d1 d x Q gx1.gh r1 ed fun G3 H3 v gx3 r3 => q G3 H3 v (gx1.trans gx3) ((r3 H0).start gx1.h)⟩⟩
theorem d_cmp {op : CmpOp} {r : R2} {F : PyData → PyData → Option PyData} (ho : OpR X (compareOp op) r) (hF : OpF X.K .val r F) (ha : DX X .bor a f) (hb : DX X .bor b g) (hm : behindInMarks op b = false) : DX X .val (.Compare a [op] [b] pos) (eOp F f g) :=
  ⟨(pe_cmpR ho ha.pe hb.pe hm).imp fun _ _ _ q => op_two hF q⟩
def asB : PyData → Option Bool
  | .bool b => some b
  | _ => none
def bT (f : SE) : SB := fun ρ => (f ρ).bind asB
theorem asB_some : ∀ {d : PyData} {k : Bool}, asB d = some k → d = .bool k
  | .bool _, _, h => congrArg _ (Option.some.inj h)
theorem tTest_of {t : TE} {f : SE} (w : ∀ σ H Q, tE X.K .val f σ H Q → t σ H Q) : ∀ σ H Q, tT X.K (bT f) σ H Q → tTest t σ H Q := fun σ H Q ⟨G0, H0, G, ρ, k, s, ed, q⟩ => by
  obtain ⟨d, e1, e2⟩ := bind_some ed
  cases asB_some e2
  exact w σ H _ ⟨G0, H0, G, ρ, _, s, e1, fun G' H' v gx r => by
    cases (show Rep X.K G' (.bool k) v from r)
    exact ⟨k, rfl, q G' H' gx⟩⟩
theorem t_cmp {op : CmpOp} {r : R2} {F : PyData → PyData → Option PyData} (ho : OpR X (compareOp op) r) (hF : OpF X.K .val r F) (ha : DX X .bor a f) (hb : DX X .bor b g) (hm : behindInMarks op b = false) : DT X (.Compare a [op] [b] pos) (bT (eOp F f g)) :=
  ⟨(pt_cmpR ho ha.pe hb.pe hm).imp (tTest_of fun _ _ _ q => op_two hF q)⟩
def eChain (F F' : PyData → PyData → Option PyData) (f g h : SE) : SE := fun ρ => (f ρ).bind fun x => (g ρ).bind fun y => (F x y).bind fun z => match z with
  | .bool true => (h ρ).bind fun w => F' y w
  | .bool false => some (.bool false)
  | _ => none
theorem chain_two {r r' : R2} {F F' : PyData → PyData → Option PyData} (hF : OpF X.K .val r F) (hF' : OpF X.K .val r' F') {σ : L2.St} {H : Hp} {Q : VK} (q : tE X.K .val (eChain F F' f g h) σ H Q) : tChain r r' (tE X.K .bor f) (tE X.K .bor g) (tE X.K .bor h) σ H Q := by
  obtain ⟨G0, H0, G, ρ, d, s, ed, q⟩ := q
  obtain ⟨d1, e1, ed⟩ := bind_some ed
  obtain ⟨d2, e2, ed⟩ := bind_some ed
  obtain ⟨d3, e3, ed⟩ := bind_some ed
  refine ⟨G0, H0, G, ρ, d1, s, e1, fun G1 H1 x gx1 r1 => ⟨G0, H0, G1, ρ, d2, s.gx' gx1, e2, fun G2 H2 y gx2 r2 => ?_⟩⟩
  have gx := gx1.trans gx2
  refine hF G2 H2 d1 d2 d3 x y _ gx2.gh (RM.mono (m := .bor) (H0 := H0) (Hs := H) gx2 r1) r2 e3 fun G3 H3 v gx3 r3 => ?_
  have gx4 := gx.trans gx3
  cases d3 with
  | bool k =>
    cases (show Rep X.K G3 (.bool k) v from r3 H0)
    refine ⟨k, rfl, ?_⟩
    cases k with
    | false =>
      rw [if_neg Bool.false_ne_true]
      cases ed
      exact q G3 H3 _ gx4 (.bl false)
    | true =>
      rw [if_pos rfl]
      obtain ⟨d4, e4, ed⟩ := bind_some ed
      refine ⟨G0, H0, G3, ρ, d4, s.gx' gx4, e4, fun G5 H5 w gx5 r5 => ?_⟩
      exact hF' G5 H5 d2 d4 d y w Q gx5.gh (RM.mono (m := .bor) (H0 := H0) (Hs := H) (gx3.trans gx5) r2) r5 ed fun G6 H6 v' gx6 r6 => q G6 H6 v' ((gx4.trans gx5).trans gx6) (r6 H0)
  | _ => cases ed
theorem d_chain {op op' : CmpOp} {r r' : R2} {F F' : PyData → PyData → Option PyData} (ho : OpR X (compareOp op) r) (hF : OpF X.K .val r F) (ho' : OpR X (compareOp op') r') (hF' : OpF X.K .val r' F') (ha : DX X .bor a f) (hb : DX X .bor b g) (hc : DX X .bor c h)
    (hm : lastMarks [op, op'] [b, c] = false := by with_unfolding_all rfl) : DX X .val (.Compare a [op, op'] [b, c] pos) (eChain F F' f g h) :=
  ⟨(pe_chain ho ho' ha.pe hb.pe hc.pe hm).imp fun _ _ _ q => chain_two hF hF' q⟩
theorem t_chain {op op' : CmpOp} {r r' : R2} {F F' : PyData → PyData → Option PyData} (ho : OpR X (compareOp op) r) (hF : OpF X.K .val r F) (ho' : OpR X (compareOp op') r') (hF' : OpF X.K .val r' F') (ha : DX X .bor a f) (hb : DX X .bor b g) (hc : DX X .bor c h)
    (hm : lastMarks [op, op'] [b, c] = false := by with_unfolding_all rfl) : DT X (.Compare a [op, op'] [b, c] pos) (bT (eChain F F' f g h)) :=
  ⟨(pt_chain ho ho' ha.pe hb.pe hc.pe hm).imp (tTest_of fun _ _ _ q => chain_two hF hF' q)⟩

/-! ### truth; and, or, not -/
def truth : PyData → Option Bool
  | .none => some false
  | .bool b => some b
  | .int i => some (i != 0)
  | .str x => if x.length ≤ sizeLine then some ((x.length : Int) != 0) else none
  | .list xs => some (!xs.isEmpty)
  | .tuple xs => some (!xs.isEmpty)
  | _ => none
theorem RepA.isEmpty {K : PySem.W.Frag} {G : Hp} {ds : List PyData} {vs : List V} (r : RepA K G ds vs) : vs.isEmpty = ds.isEmpty := by cases r <;> rfl
theorem truth_ok {K : PySem.W.Frag} {G H : Hp} (e : Ex G H) {d : PyData} {x : V} {k : Bool} (r : RepB K G H d x) (h : truth d = some k) : TruV K x H k := by
  cases r with
  | lst hl ra =>
    cases h
    exact .inl ⟨_, SqL.of hl, by rw [ra.isEmpty]⟩
  | dK _ _ _ => cases h
  | dT _ _ _ => cases h
  | val r =>
    cases r with
    | non => cases h; rfl
    | bl b => cases h; rfl
    | int i => cases h; rfl
    | str y =>
      have h' : (if y.length ≤ sizeLine then some ((y.length : Int) != 0) else none) = some k := h
      obtain ⟨h1, h2⟩ := if_some h'
      exact ⟨h1, h2.symm⟩
    | lst hl ra =>
      cases h
      exact .inl ⟨_, .inl (e.rd hl), by rw [ra.isEmpty]⟩
    | tup hl ra =>
      cases h
      exact .inr (.inl ⟨_, e.sqt (sqtOf hl), by rw [ra.isEmpty]⟩)
    | dK _ _ _ => cases h
    | dT _ _ _ => cases h
def bV (f : SE) : SB := fun ρ => (f ρ).bind truth
theorem t_val (ha : DX X .bor a f) (he : ∀ whole, isTrue a X.env whole = (do let v ← whole; standAt a.pos; holding [v] (truthy v)) := by intro _; rfl) : DT X a (bV f) :=
  ⟨(pt_truth ha.pe he).imp fun σ H Q ⟨G0, H0, G, ρ, k, s, ed, q⟩ => by
    obtain ⟨d, e1, e2⟩ := bind_some ed
    exact ⟨G0, H0, G, ρ, d, s, e1, fun G' H' v gx r => ⟨k, truth_ok gx.gh r e2, q G' H' gx⟩⟩⟩
def bAnd (f g : SB) : SB := fun ρ => (f ρ).bind fun k => if k = true then g ρ else some false
def bOr (f g : SB) : SB := fun ρ => (f ρ).bind fun k => if k = true then some true else g ρ
def bNot (f : SB) : SB := fun ρ => (f ρ).map fun k => !k
variable {rest : List Expr} {t u : SB}
theorem w_and1 (ha : DT X a t) : DW X (.BoolOp .And [a] pos) t := ⟨pw_and1 ha.pt⟩
theorem w_or1 (ha : DT X a t) : DW X (.BoolOp .Or [a] pos) t := ⟨pw_or1 ha.pt⟩
theorem w_and (ha : DT X a t) (hb : DW X (.BoolOp .And (b :: rest) pos) u) : DW X (.BoolOp .And (a :: b :: rest) pos) (bAnd t u) :=
  ⟨(pw_and ha.pt hb.pw).imp fun σ H Q ⟨G0, H0, G, ρ, k, s, ed, q⟩ => by
    obtain ⟨k1, e1, e2⟩ := bind_some ed
    refine ⟨G0, H0, G, ρ, k1, s, e1, fun G' H' gx => ?_⟩
    cases k1 with
    | true => exact iteT ⟨G0, H0, G', ρ, k, s.gx' gx, e2, fun G2 H2 gx2 => q G2 H2 (gx.trans gx2)⟩
    | false => cases e2; exact iteF (q G' H' gx)⟩
theorem w_or (ha : DT X a t) (hb : DW X (.BoolOp .Or (b :: rest) pos) u) : DW X (.BoolOp .Or (a :: b :: rest) pos) (bOr t u) :=
  ⟨(pw_or ha.pt hb.pw).imp fun σ H Q ⟨G0, H0, G, ρ, k, s, ed, q⟩ => by
    obtain ⟨k1, e1, e2⟩ := bind_some ed
    refine ⟨G0, H0, G, ρ, k1, s, e1, fun G' H' gx => ?_⟩
    cases k1 with
    | false => exact iteF ⟨G0, H0, G', ρ, k, s.gx' gx, e2, fun G2 H2 gx2 => q G2 H2 (gx.trans gx2)⟩
    | true => cases e2; exact iteT (q G' H' gx)⟩
theorem t_w (h : DW X e t) : DT X e t := ⟨h.pw.pt⟩
theorem t_not (ha : DT X a t) : DT X (.UnaryOp .Not a pos) (bNot t) :=
  ⟨(pt_not ha.pt).imp fun σ H Q ⟨G0, H0, G, ρ, k, s, ed, q⟩ => by
    cases e : t ρ with
    | none => rw [bNot, e] at ed; cases ed
    | some k1 =>
      rw [bNot, e] at ed
      cases ed
      exact ⟨G0, H0, G, ρ, k1, s, e, fun G' H' gx => q G' H' gx⟩⟩
/-- .. as values -/
def eAnd (f g : SE) : SE := fun ρ => (f ρ).bind fun x => (truth x).bind fun k => if k = true then g ρ else some x
def eOr (f g : SE) : SE := fun ρ => (f ρ).bind fun x => (truth x).bind fun k => if k = true then some x else g ρ
def eNot (f : SE) : SE := fun ρ => (f ρ).bind fun x => (truth x).map fun k => .bool !k
theorem d_one {op} (h : DX X m a f) : DX X m (.BoolOp op [a] pos) f := ⟨pe_one h.pe⟩
theorem d_and (ha : DX X .val a f) (hb : DX X .val (.BoolOp .And (b :: rest) pos) g) : DX X .val (.BoolOp .And (a :: b :: rest) pos) (eAnd f g) :=
  ⟨(pe_andT ha.pe hb.pe).imp fun σ H Q ⟨G0, H0, G, ρ, d, s, ed, q⟩ => by
    obtain ⟨d1, e1, ed⟩ := bind_some ed
    obtain ⟨k1, e2, ed⟩ := bind_some ed
    refine ⟨G0, H0, G, ρ, d1, s, e1, fun G' H' v gx r => ⟨k1, truth_ok gx.gh (.val r) e2, ?_⟩⟩
    cases k1 with
    | true => exact iteT ⟨G0, H0, G', ρ, d, s.gx' gx, ed, fun G2 H2 v gx2 r => q G2 H2 v (gx.trans gx2) r⟩
    | false => cases ed; exact iteF (q G' H' v gx r)⟩
theorem d_or (ha : DX X .val a f) (hb : DX X .val (.BoolOp .Or (b :: rest) pos) g) : DX X .val (.BoolOp .Or (a :: b :: rest) pos) (eOr f g) :=
  ⟨(pe_orT ha.pe hb.pe).imp fun σ H Q ⟨G0, H0, G, ρ, d, s, ed, q⟩ => by
    obtain ⟨d1, e1, ed⟩ := bind_some ed
    obtain ⟨k1, e2, ed⟩ := bind_some ed
    refine ⟨G0, H0, G, ρ, d1, s, e1, fun G' H' v gx r => ⟨k1, truth_ok gx.gh (.val r) e2, ?_⟩⟩
    cases k1 with
    | false => exact iteF ⟨G0, H0, G', ρ, d, s.gx' gx, ed, fun G2 H2 v gx2 r => q G2 H2 v (gx.trans gx2) r⟩
    | true => cases ed; exact iteT (q G' H' v gx r)⟩
theorem d_not (ha : DX X .bor a f) : DX X .val (.UnaryOp .Not a pos) (eNot f) :=
  ⟨(pe_notT ha.pe).imp fun σ H Q ⟨G0, H0, G, ρ, d, s, ed, q⟩ => by
    obtain ⟨d1, e1, ed⟩ := bind_some ed
    cases e2 : truth d1 with
    | none => rw [e2] at ed; cases ed
    | some k =>
      rw [e2] at ed
      cases ed
      exact ⟨G0, H0, G, ρ, d1, s, e1, fun G' H' v gx r => ⟨k, truth_ok gx.gh r e2, q G' H' _ gx (.bl _)⟩⟩⟩
/-- a if t else b -/
def eIf (t : SB) (f g : SE) : SE := fun ρ => (t ρ).bind fun k => if k = true then f ρ else g ρ
theorem d_if (hc : DT X c t) (ha : DX X m a f) (hb : DX X m b g) : DX X m (.IfExp c a b pos) (eIf t f g) :=
  ⟨(pe_ifExp hc.pt ha.pe hb.pe).imp fun σ H Q ⟨G0, H0, G, ρ, d, s, ed, q⟩ => by
    obtain ⟨k1, e1, ed⟩ := bind_some ed
    refine ⟨G0, H0, G, ρ, k1, s, e1, fun G' H' gx => ?_⟩
    cases k1 with
    | true => exact iteT ⟨G0, H0, G', ρ, d, s.gx' gx, ed, fun G2 H2 v gx2 r => q G2 H2 v (gx.trans gx2) (r.start gx.h)⟩
    | false => exact iteF ⟨G0, H0, G', ρ, d, s.gx' gx, ed, fun G2 H2 v gx2 r => q G2 H2 v (gx.trans gx2) (r.start gx.h)⟩⟩

/-! ### argument lists and displays -/
def aNil : SA := fun _ => some []
def aCons (f : SE) (r : SA) : SA := fun ρ => (f ρ).bind fun d => (r ρ).bind fun ds => some (d :: ds)
variable {es : List Expr} {ms : List Md} {r : SA}
theorem a_nil : DA X [] [] aNil := ⟨pa_nil.imp fun σ H Q ⟨G0, H0, G, ρ, d, s, ed, q⟩ => by
  cases ed
  exact q G H [] (Gx.refl s.gx.gh) .nil⟩
theorem a_cons (ha : DX X m e f) (hr : DA X ms es r) (hs : starEach (e :: es) X.env = (false, eval e X.env) :: starEach es X.env := by rfl) : DA X (m :: ms) (e :: es) (aCons f r) :=
  ⟨(pa_cons ha.pe hr.pa hs).imp fun σ H Q ⟨G0, H0, G, ρ, d, s, ed, q⟩ => by
    obtain ⟨d1, e1, ed⟩ := bind_some ed
    obtain ⟨ds, e2, ed⟩ := bind_some ed
    cases ed
    refine ⟨G0, H0, G, ρ, d1, s, e1, fun G1 H1 x gx1 r1 => ⟨G0, H0, G1, ρ, ds, s.gx' gx1, e2, fun G2 H2 vs gx2 r2 => ?_⟩⟩
    exact q G2 H2 _ (gx1.trans gx2) (.cons (r1.mono gx2) (r2.start gx1.h))⟩
def eTup (r : SA) : SE := fun ρ => (r ρ).bind fun ds => if ds.length ≤ sizeLine then some (.tuple ds) else none
def eLst (r : SA) : SE := fun ρ => (r ρ).bind fun ds => if ds.length ≤ sizeLine then some (.list ds) else none
theorem d_tup {x1} (h : DA X ms es r) (hm : ∀ m ∈ ms, m = .val) : DX X .val (.Tuple es x1 pos) (eTup r) :=
  ⟨(pe_tup h.pa).imp fun σ H Q ⟨G0, H0, G, ρ, d, s, ed, q⟩ => by
    obtain ⟨ds, e1, ed⟩ := bind_some ed
    obtain ⟨hl, rfl⟩ := if_some ed
    refine ⟨G0, H0, G, ρ, ds, s, e1, fun G1 H1 vs gx1 r1 => ?_⟩
    have ra := r1.vals hm
    refine ⟨by rw [← ra.len]; exact hl, fun p np => ?_⟩
    exact q _ _ _ (gx1.trans (Gx.new gx1.gh np)) (.tup upd_same (ra.mono (Ex.new (gx1.gh.back np))))⟩
theorem d_lst (h : DA X ms es r) (hm : ∀ m ∈ ms, m = .val) : DX X .new (.List es pos) (eLst r) :=
  ⟨(pe_lst h.pa).imp fun σ H Q ⟨G0, H0, G, ρ, d, s, ed, q⟩ => by
    obtain ⟨ds, e1, ed⟩ := bind_some ed
    obtain ⟨hl, rfl⟩ := if_some ed
    refine ⟨G0, H0, G, ρ, ds, s, e1, fun G1 H1 vs gx1 r1 => ?_⟩
    have ra := r1.vals hm
    refine ⟨by rw [← ra.len]; exact hl, fun p np => ?_⟩
    exact q _ _ _ (gx1.trans (Gx.mine gx1.gh np)) ⟨p, rfl, gx1.h.back np, gx1.gh.back np, .lst upd_same ra⟩⟩
end
end DV

namespace DV
open PySem L2

theorem ite_some {c : Prop} [Decidable c] {α : Type} {a : Option α} {b : α} (h : (if c then a else none) = some b) : c ∧ a = some b := by
  split at h
  · exact ⟨by assumption, h⟩
  · cases h
/-! ### what is walked -/
abbrev SI := Rho → Option (List PyData)
structure WalkD (K : PySem.W.Frag) (B G : Hp) (J : It) (ds : List PyData) : Prop where
  goes : ∀ i G2 H2, i < ds.length → Ex G G2 → Ex G2 H2 → Ex B H2 → J.go i H2
  stops : ∀ G2 H2, Ex G G2 → Ex G2 H2 → Ex B H2 → J.stop ds.length H2
  yields : ∀ i d G2 H2 x H3, ds[i]? = some d → Ex G G2 → Ex G2 H2 → Ex B H2 → J.yld i H2 x H3 → ∃ G3, Gx G2 H2 G3 H3 ∧ Rep K G3 d x
def tI (K : PySem.W.Frag) (wide : Bool) (f : SI) : TI := fun σ H R => ∃ G0 H0 G ρ ds, Sok K G0 H0 G ρ σ H ∧ f ρ = some ds ∧ ∀ G' H' J, Gx G H G' H' → WalkD K (if wide = true then H' else H0) G' J ds → R J H'
structure DI (X : Cx) (tg iter : Expr) (wide : Bool) (f : SI) : Prop where
  pi : PI X tg iter (tI X.K wide f)
theorem _root_.L2.PI.imp {X : Cx} {tg e : Expr} {t t' : TI} (h : PI X tg e t) (w : ∀ σ H Q, t' σ H Q → t σ H Q) : PI X tg e t' := ⟨fun pins s σ H Q I q => h.run pins s σ H Q I (w σ H Q q)⟩
def itemsOf : PyData → Option (List PyData)
  | .list ds => some ds
  | .tuple ds => some ds
  | .str z => some (z.cps.toList.map fun c => .str ⟨#[c]⟩)
  | _ => none
/-- a list, a tuple or a text, by what it is -/
def iAny (K : PySem.W.Frag) (te : TE) : TI := fun σ H R => te σ H fun x H1 =>
  (∃ a, x = .ref a ∧ (∃ xs, SqL K H1 a xs) ∧ R (Itl K a) H1) ∨ (∃ a, x = .ref a ∧ (∃ xs, SqT K H1 a xs) ∧ R (Itt K a) H1) ∨ ∃ z, x = .str z ∧ R (Its z) H1
theorem pi_any {X : Cx} {tg l : Expr} {tl : TE} (hl : PE X l tl) : PI X tg l (iAny X.K tl) := by
  refine ⟨fun pins s σ H R I h => ?_⟩
  refine thn (hl.run pins s σ H _ I h) fun v s1 ⟨x, H1, I1, r1, q1⟩ => ?_
  rcases q1 with ⟨a, e, ⟨xs, hq⟩, q⟩ | ⟨a, e, ⟨xs, hq⟩, q⟩ | ⟨z, e, q⟩
  · subst e
    cases r1
    obtain ⟨its, rv, p, hz⟩ := I1.list hq
    refine wpAny_pyIter_list p.isList ?_
    refine ⟨s1.heap.objs.size, [s1.heap.objs.size], _, _, H1, rfl, I1.kept (t' := s1.toks) fun b o e => Heap.get?_push_of_some _ e, turn_list a _, ⟨_, Heap.get?_push_size _ rfl, rfl, rfl⟩, fun b hb => ?_, q⟩
    have e : b = s1.heap.objs.size := by simpa using hb
    subst e
    exact I1.fpOk (Nat.le_refl _) (I1.hok.fresh (Nat.le_refl _))
  · subst e
    cases r1
    obtain ⟨its, rv, p, hz⟩ := I1.tuple hq
    refine wpAny_pyIter_tuple (show s1.heap.IsTuple a its.toArray from p) ?_
    refine ⟨s1.heap.objs.size, [s1.heap.objs.size], _, _, H1, rfl, I1.kept (t' := s1.toks) fun b o e => Heap.get?_push_of_some _ e, turn_tuple a _, ⟨_, Heap.get?_push_size _ rfl, rfl, rfl⟩, fun b hb => ?_, q⟩
    have e : b = s1.heap.objs.size := by simpa using hb
    subst e
    exact I1.fpOk (Nat.le_refl _) (I1.hok.fresh (Nat.le_refl _))
  · subst e
    obtain ⟨t, rfl⟩ := r1
    cases ha : z.cps.all (· < 128)
    · exact wpAny_pyIter_wide ha (pi_one (tk := s1.toks) I1 _ (turn_str _ z t "str_iterator" (.inr rfl)) ⟨_, Heap.get?_push_size _ rfl, rfl, rfl⟩ q)
    · exact wpAny_pyIter_ascii ha (pi_one (tk := s1.toks) I1 _ (turn_str _ z t "str_ascii_iterator" (.inl rfl)) ⟨_, Heap.get?_push_size _ rfl, rfl, rfl⟩ q)
section
variable {K : PySem.W.Frag} {B G0 H0 G H G' H' : Hp} {ρ : Rho} {σ : L2.St} {d : PyData} {ds : List PyData} {vs : List V} {a : Addr}
theorem WalkD.list (st : ∀ H2, Ex G H2 → Ex B H2 → SqL K H2 a vs) (r : RepA K G ds vs) : WalkD K B G (Itl K a) ds where
  goes := fun i G2 H2 hi g1 g2 b => by
    have q := st H2 (g1.trans g2) b
    rw [r.len] at hi
    exact ⟨vs, _, q, List.getElem?_eq_getElem hi⟩
  stops := fun G2 H2 g1 g2 b => ⟨vs, st H2 (g1.trans g2) b, by rw [r.len]; exact Nat.le_refl _⟩
  yields := fun i d G2 H2 x H3 hi g1 g2 b y => by
    obtain ⟨rfl, hy⟩ := y
    obtain ⟨v, h1, h2⟩ := r.get hi
    have := hy vs (st _ (g1.trans g2) b)
    rw [h1] at this; cases this
    exact ⟨G2, Gx.refl g2, h2.mono g1⟩
theorem WalkD.tup (st : ∀ H2, Ex G H2 → Ex B H2 → SqT K H2 a vs) (r : RepA K G ds vs) : WalkD K B G (Itt K a) ds where
  goes := fun i G2 H2 hi g1 g2 b => by
    have q := st H2 (g1.trans g2) b
    rw [r.len] at hi
    exact ⟨vs, _, q, List.getElem?_eq_getElem hi⟩
  stops := fun G2 H2 g1 g2 b => ⟨vs, st H2 (g1.trans g2) b, by rw [r.len]; exact Nat.le_refl _⟩
  yields := fun i d G2 H2 x H3 hi g1 g2 b y => by
    obtain ⟨rfl, hy⟩ := y
    obtain ⟨v, h1, h2⟩ := r.get hi
    have := hy vs (st _ (g1.trans g2) b)
    rw [h1] at this; cases this
    exact ⟨G2, Gx.refl g2, h2.mono g1⟩
theorem WalkD.str {z : Str} : WalkD K B G (Its z) (z.cps.toList.map fun c => .str ⟨#[c]⟩) where
  goes := fun i G2 H2 hi g1 g2 b => by
    show i < z.cps.size
    simpa using hi
  stops := fun G2 H2 g1 g2 b => by
    show z.cps.size ≤ _
    simp
  yields := fun i d G2 H2 x H3 hi g1 g2 b y => by
    obtain ⟨rfl, c, hc, rfl⟩ := y
    rw [List.getElem?_map, Array.getElem?_toList, hc] at hi
    cases hi
    exact ⟨G2, Gx.refl g2, .str _⟩
/-- the pairs that enumerate gives -/
def enumD : Nat → List PyData → List PyData
  | _, [] => []
  | n, d :: ds => .tuple [.int (n : Nat), d] :: enumD (n + 1) ds
theorem enumD_len : ∀ (n : Nat) (ds : List PyData), (enumD n ds).length = ds.length
  | _, [] => rfl
  | n, _ :: ds => congrArg (· + 1) (enumD_len (n + 1) ds)
theorem enumD_get : ∀ (n : Nat) (ds : List PyData) (i : Nat), (enumD n ds)[i]? = ds[i]?.map fun d => .tuple [.int ((n + i : Nat) : Int), d]
  | _, [], i => by simp [enumD]
  | n, d :: ds, 0 => by simp [enumD]
  | n, d :: ds, i + 1 => by
    rw [show (enumD n (d :: ds))[i + 1]? = (enumD (n + 1) ds)[i]? from rfl, enumD_get (n + 1) ds i, show (d :: ds)[i + 1]? = ds[i]? from rfl, show n + 1 + i = n + (i + 1) by omega]
theorem WalkD.enum (st : ∀ H2, Ex G H2 → Ex B H2 → SqL K H2 a vs) (r : RepA K G ds vs) : WalkD K B G (Ite K a) (enumD 0 ds) where
  goes := fun i G2 H2 hi g1 g2 b => by
    rw [enumD_len, r.len] at hi
    exact ⟨vs, _, st H2 (g1.trans g2) b, List.getElem?_eq_getElem hi⟩
  stops := fun G2 H2 g1 g2 b => ⟨vs, st H2 (g1.trans g2) b, by rw [enumD_len, r.len]; exact Nat.le_refl _⟩
  yields := fun i d G2 H2 x H3 hi g1 g2 b y => by
    obtain ⟨T, x', rfl, nT, rfl, hy⟩ := y
    rw [enumD_get] at hi
    cases e : ds[i]? with
    | none => rw [e] at hi; cases hi
    | some d' =>
      rw [e] at hi
      cases hi
      obtain ⟨v, h1, h2⟩ := r.get e
      have := hy vs (st _ (g1.trans g2) b)
      rw [h1] at this; cases this
      refine ⟨_, Gx.new g2 nT, .tup upd_same (.cons ?_ (.cons (h2.mono (g1.trans (Ex.new (g2.back nT)))) .nil))⟩
      rw [Nat.zero_add]; exact .int _
def zipD : List PyData → List PyData → List PyData
  | x :: xs, y :: ys => .tuple [x, y] :: zipD xs ys
  | _, _ => []
theorem zipD_len : ∀ xs ys : List PyData, (zipD xs ys).length = min xs.length ys.length
  | [], _ => by simp [zipD]
  | _ :: _, [] => by simp [zipD]
  | x :: xs, y :: ys => by
    show (zipD xs ys).length + 1 = min (xs.length + 1) (ys.length + 1)
    rw [zipD_len xs ys]; omega
theorem zipD_get : ∀ (xs ys : List PyData) (i : Nat) (d : PyData), (zipD xs ys)[i]? = some d → ∃ x y, xs[i]? = some x ∧ ys[i]? = some y ∧ d = .tuple [x, y]
  | [], _, i, d, h => by simp [zipD] at h
  | _ :: _, [], i, d, h => by simp [zipD] at h
  | x :: xs, y :: ys, 0, d, h => ⟨x, y, rfl, rfl, (Option.some.inj h).symm⟩
  | x :: xs, y :: ys, i + 1, d, h => zipD_get xs ys i d h
theorem WalkD.zip {a b : Addr} {us : List V} {es : List PyData} (st : ∀ H2, Ex G H2 → Ex B H2 → SqL K H2 a vs) (st2 : ∀ H2, Ex G H2 → Ex B H2 → SqL K H2 b us) (r : RepA K G ds vs) (r2 : RepA K G es us) : WalkD K B G (Itz K a b) (zipD ds es) where
  goes := fun i G2 H2 hi g1 g2 b => by
    rw [zipD_len, r.len, r2.len] at hi
    exact ⟨vs, us, _, _, st H2 (g1.trans g2) b, st2 H2 (g1.trans g2) b, List.getElem?_eq_getElem (by omega), List.getElem?_eq_getElem (by omega)⟩
  stops := fun G2 H2 g1 g2 b => ⟨vs, us, st H2 (g1.trans g2) b, st2 H2 (g1.trans g2) b, by rw [zipD_len, r.len, r2.len]; omega⟩
  yields := fun i d G2 H2 x H3 hi g1 g2 b y => by
    obtain ⟨T, x', y', rfl, nT, rfl, hx, hy⟩ := y
    obtain ⟨d1, d2, e1, e2, rfl⟩ := zipD_get _ _ _ _ hi
    obtain ⟨v, h1, h2⟩ := r.get e1
    obtain ⟨u, k1, k2⟩ := r2.get e2
    have := hx vs (st _ (g1.trans g2) b)
    rw [h1] at this; cases this
    have := hy us (st2 _ (g1.trans g2) b)
    rw [k1] at this; cases this
    exact ⟨_, Gx.new g2 nT, .tup upd_same (.cons (h2.mono (g1.trans (Ex.new (g2.back nT)))) (.cons (k2.mono (g1.trans (Ex.new (g2.back nT)))) .nil))⟩
def rangeD (lo : Int) (n : Nat) : List PyData := (List.range n).map fun i => .int (lo + (i : Nat))
theorem rangeD_len (lo : Int) (n : Nat) : (rangeD lo n).length = n := by simp [rangeD]
theorem WalkD.range {lo : Int} {n : Nat} : WalkD K B G (Itr lo n) (rangeD lo n) where
  goes := fun i G2 H2 hi _ _ _ => by rw [rangeD_len] at hi; exact hi
  stops := fun G2 H2 _ _ _ => by rw [rangeD_len]; exact Nat.le_refl _
  yields := fun i d G2 H2 x H3 hi _ g2 _ y => by
    obtain ⟨rfl, rfl⟩ := y
    unfold rangeD at hi
    rw [List.getElem?_map] at hi
    cases e : (List.range n)[i]? with
    | none => rw [e] at hi; cases hi
    | some j =>
      rw [e] at hi
      cases hi
      have : j = i := by
        obtain ⟨h1, h2⟩ := List.getElem?_eq_some_iff.mp e
        rw [← h2]; simp
      subst this
      exact ⟨G2, Gx.refl g2, .int _⟩
def rangeC (lo c : Int) (n : Nat) : List PyData := (List.range n).map fun i => .int (lo + (i : Nat) * c)
theorem rangeC_len (lo c : Int) (n : Nat) : (rangeC lo c n).length = n := by simp [rangeC]
theorem WalkD.rangeC {lo c : Int} {n : Nat} : WalkD K B G (Itc lo c n) (rangeC lo c n) where
  goes := fun i G2 H2 hi _ _ _ => by rw [rangeC_len] at hi; exact hi
  stops := fun G2 H2 _ _ _ => by rw [rangeC_len]; exact Nat.le_refl _
  yields := fun i d G2 H2 x H3 hi _ g2 _ y => by
    obtain ⟨rfl, rfl⟩ := y
    unfold DV.rangeC at hi
    rw [List.getElem?_map] at hi
    cases e : (List.range n)[i]? with
    | none => rw [e] at hi; cases hi
    | some j =>
      rw [e] at hi
      cases hi
      have : j = i := by
        obtain ⟨h1, h2⟩ := List.getElem?_eq_some_iff.mp e
        rw [← h2]; simp
      subst this
      exact ⟨G2, Gx.refl g2, .int _⟩
end
/-- reading a list, whatever mode -/
theorem RepB.seq {K : PySem.W.Frag} {G B : Hp} {ds : List PyData} {v : V} (h : RepB K G B (.list ds) v) : ∃ a vs, v = .ref a ∧ (∀ H2, Ex G H2 → Ex B H2 → Rd H2 a (.lst vs)) ∧ RepA K G ds vs := by
  cases h with
  | val h =>
    cases h with
    | lst h r => exact ⟨_, _, rfl, fun H2 g _ => g.rd h, r⟩
  | lst h r => exact ⟨_, _, rfl, fun H2 _ b => .inl (b _ _ h), r⟩
theorem RepB.seqT {K : PySem.W.Frag} {G B : Hp} {ds : List PyData} {v : V} (h : RepB K G B (.tuple ds) v) : ∃ a vs, v = .ref a ∧ (∀ H2, Ex G H2 → SqT K H2 a vs) ∧ RepA K G ds vs := by
  cases h with
  | val h =>
    cases h with
    | tup h r => exact ⟨_, _, rfl, fun H2 g => g.sqt (sqtOf h), r⟩
theorem RepB.str {K : PySem.W.Frag} {G B : Hp} {z : Str} {v : V} (h : RepB K G B (.str z) v) : v = .str z := by
  cases h with
  | val h => cases h; rfl
theorem RepB.int {K : PySem.W.Frag} {G B : Hp} {z : Int} {v : V} (h : RepB K G B (.int z) v) : v = .int z := by
  cases h with
  | val h => cases h; rfl
theorem RepB.bl {K : PySem.W.Frag} {G B : Hp} {z : Bool} {v : V} (h : RepB K G B (.bool z) v) : v = .bl z := by
  cases h with
  | val h => cases h; rfl
theorem RepB.non {K : PySem.W.Frag} {G B : Hp} {v : V} (h : RepB K G B .none v) : v = .non := by
  cases h with
  | val h => cases h; rfl
section
variable {X : Cx} {tg e a b c : Expr} {f g h : SE} {pos p tpos : Pos} {elts : List Expr} {kk : Nat}
def sSeq (f : SE) : SI := fun ρ => (f ρ).bind itemsOf
theorem any_of {K : PySem.W.Frag} {B G' H' : Hp} {d : PyData} {ds : List PyData} {v : V} {R : It → Hp → Prop} (gh : Ex G' H') (bh : Ex B H') (r : RepB K G' B d v) (e2 : itemsOf d = some ds)
    (q : ∀ J, WalkD K B G' J ds → R J H') : (∃ a, v = .ref a ∧ (∃ xs, SqL K H' a xs) ∧ R (Itl K a) H') ∨ (∃ a, v = .ref a ∧ (∃ xs, SqT K H' a xs) ∧ R (Itt K a) H') ∨ ∃ z, v = .str z ∧ R (Its z) H' := by
  cases d with
  | list l =>
    cases e2
    obtain ⟨a, vs, rfl, st, ra⟩ := r.seq
    exact .inl ⟨a, rfl, ⟨vs, .inl (st _ gh bh)⟩, q _ (WalkD.list (fun H2 x y => .inl (st H2 x y)) ra)⟩
  | tuple l =>
    cases e2
    obtain ⟨a, vs, rfl, st, ra⟩ := r.seqT
    exact .inr (.inl ⟨a, rfl, ⟨vs, st _ gh⟩, q _ (WalkD.tup (fun H2 g _ => st H2 g) ra)⟩)
  | str z =>
    cases e2
    cases r.str
    exact .inr (.inr ⟨z, rfl, q _ WalkD.str⟩)
  | _ => cases e2
theorem i_val (ha : DX X .val e f) : DI X tg e false (sSeq f) := ⟨(pi_any ha.pe).imp fun σ H R ⟨G0, H0, G, ρ, ds, s, ed, q⟩ => by
  obtain ⟨d, e1, e2⟩ := bind_some ed
  exact ⟨G0, H0, G, ρ, d, s, e1, fun G' H' v gx r => any_of gx.gh (s.gx.h.trans gx.h) (.val r) e2 fun J w => q G' H' J gx w⟩⟩
theorem i_par (ha : DX X .par e f) : DI X tg e false (sSeq f) := ⟨(pi_any ha.pe).imp fun σ H R ⟨G0, H0, G, ρ, ds, s, ed, q⟩ => by
  obtain ⟨d, e1, e2⟩ := bind_some ed
  exact ⟨G0, H0, G, ρ, d, s, e1, fun G' H' v gx r => any_of gx.gh (s.gx.h.trans gx.h) r e2 fun J w => q G' H' J gx w⟩⟩
theorem i_bor (ha : DX X .bor e f) : DI X tg e true (sSeq f) := ⟨(pi_any ha.pe).imp fun σ H R ⟨G0, H0, G, ρ, ds, s, ed, q⟩ => by
  obtain ⟨d, e1, e2⟩ := bind_some ed
  exact ⟨G0, H0, G, ρ, d, s, e1, fun G' H' v gx r => any_of gx.gh (Ex.refl _) r e2 fun J w => q G' H' J gx w⟩⟩
/-- for over the script -/
theorem i_scr (ha : DX X .scr e f) : DI X tg e true (sSeq f) := ⟨(pi_any ha.pe).imp fun σ H R ⟨G0, H0, G, ρ, ds, s, ed, q⟩ => by
  obtain ⟨d, e1, e2⟩ := bind_some ed
  refine ⟨G0, H0, G, ρ, d, s, e1, fun G' H' v gx r => ?_⟩
  obtain ⟨a, ns, rfl, rfl, hq⟩ := r
  cases e2
  exact .inl ⟨a, rfl, ⟨_, hq⟩, q G' H' _ gx (WalkD.list (fun H2 _ b => b.sql hq) (RepA.ints ns))⟩⟩
def rng1 : List PyData → Option (List PyData)
  | [.int j] => if -(2 ^ 62) ≤ j ∧ j < 2 ^ 62 then some (rangeD 0 j.toNat) else none
  | _ => none
def rng2 : List PyData → Option (List PyData)
  | [.int i, .int j] => if -(2 ^ 62) ≤ i ∧ i < 2 ^ 62 ∧ -(2 ^ 62) ≤ j ∧ j < 2 ^ 62 then some (rangeD i (j - i).toNat) else none
  | _ => none
def sArgs (F : List PyData → Option (List PyData)) (r : SA) : SI := fun ρ => (r ρ).bind F
theorem RM.stay {K : PySem.W.Frag} {H0 Hs G H : Hp} {m : Md} {d : PyData} {v : V} (hmd : m = .val ∨ m = .par) (h : RM K H0 Hs m G H d v) : RepB K G H0 d v := by
  rcases hmd with rfl | rfl
  · exact .val h
  · exact h
theorem RMs.one {K : PySem.W.Frag} {H0 Hs G H : Hp} {m : Md} {d : PyData} {vs : List V} (h : RMs K H0 Hs G H [m] [d] vs) : ∃ v, vs = [v] ∧ RM K H0 Hs m G H d v := by
  cases h with
  | cons h t => cases t; exact ⟨_, rfl, h⟩
theorem RMs.two {K : PySem.W.Frag} {H0 Hs G H : Hp} {m m' : Md} {d d' : PyData} {vs : List V} (h : RMs K H0 Hs G H [m, m'] [d, d'] vs) : ∃ v v', vs = [v, v'] ∧ RM K H0 Hs m G H d v ∧ RM K H0 Hs m' G H d' v' := by
  cases h with
  | cons h t =>
    obtain ⟨w, rfl, h2⟩ := t.one
    exact ⟨_, _, rfl, h, h2⟩
theorem RMs.three {K : PySem.W.Frag} {H0 Hs G H : Hp} {m m' m2 : Md} {d d' d2 : PyData} {vs : List V} (h : RMs K H0 Hs G H [m, m', m2] [d, d', d2] vs) : ∃ v v' v2, vs = [v, v', v2] ∧ RM K H0 Hs m G H d v ∧ RM K H0 Hs m' G H d' v' ∧ RM K H0 Hs m2 G H d2 v2 := by
  cases h with
  | cons h t =>
    obtain ⟨w, w2, rfl, h2, h3⟩ := t.two
    exact ⟨_, _, _, rfl, h, h2, h3⟩
theorem i_range1 {r : SA} (hg : Gl X "range") (hm : X.mg "range" = none) (ha : DA X [.val] [a] r) (hs : starEach [a] X.env = [(false, eval a X.env)] := by rfl) : DI X tg (.Call (.Name "range" p) [a] [] pos) false (sArgs rng1 r) :=
  ⟨(pi_range1 hg hm ha.pa hs).imp fun σ H R ⟨G0, H0, G, ρ, ds, s, ed, q⟩ => by
    obtain ⟨l, e1, e2⟩ := bind_some ed
    refine ⟨G0, H0, G, ρ, l, s, e1, fun G' H' vs gx r => ?_⟩
    unfold rng1 at e2
    split at e2
    · obtain ⟨⟨h1, h2⟩, rfl⟩ := if_some e2
      obtain ⟨v, rfl, r1⟩ := r.one
      cases (show Rep X.K G' (.int _) v from r1)
      exact ⟨_, rfl, h1, h2, q G' H' _ gx WalkD.range⟩
    · cases e2⟩
theorem i_range2 {r : SA} (hg : Gl X "range") (hm : X.mg "range" = none) (ha : DA X [.val, .val] [a, b] r) (hs : starEach [a, b] X.env = [(false, eval a X.env), (false, eval b X.env)] := by rfl) (hs2 : starEach [b] X.env = [(false, eval b X.env)] := by rfl) :
    DI X tg (.Call (.Name "range" p) [a, b] [] pos) false (sArgs rng2 r) :=
  ⟨(pi_range2 hg hm ha.pa hs hs2).imp fun σ H R ⟨G0, H0, G, ρ, ds, s, ed, q⟩ => by
    obtain ⟨l, e1, e2⟩ := bind_some ed
    refine ⟨G0, H0, G, ρ, l, s, e1, fun G' H' vs gx r => ?_⟩
    unfold rng2 at e2
    split at e2
    · obtain ⟨h1, rfl⟩ := if_some e2
      obtain ⟨v, w, rfl, r1, r2⟩ := r.two
      cases (show Rep X.K G' (.int _) v from r1)
      cases (show Rep X.K G' (.int _) w from r2)
      exact ⟨_, _, rfl, h1, q G' H' _ gx WalkD.range⟩
    · cases e2⟩
def enumI : List PyData → Option (List PyData)
  | [.list l] => some (enumD 0 l)
  | _ => none
def zipI : List PyData → Option (List PyData)
  | [.list l, .list m] => some (zipD l m)
  | _ => none
theorem i_enum {m : Md} {r : SA} (hg : Gl X "enumerate") (hm : X.mg "enumerate" = none) (ha : DA X [m] [e] r) (hmd : m = .val ∨ m = .par := by first | exact Or.inl rfl | exact Or.inr rfl) (hs : starEach [e] X.env = [(false, eval e X.env)] := by rfl) :
    DI X (.Tuple elts kk tpos) (.Call (.Name "enumerate" p) [e] [] pos) false (sArgs enumI r) :=
  ⟨(pi_enum hg hm ha.pa hs).imp fun σ H R ⟨G0, H0, G, ρ, ds, s, ed, q⟩ => by
    obtain ⟨l, e1, e2⟩ := bind_some ed
    refine ⟨G0, H0, G, ρ, l, s, e1, fun G' H' vs gx r => ?_⟩
    unfold enumI at e2
    split at e2
    · cases e2
      obtain ⟨v, rfl, r1⟩ := r.one
      obtain ⟨a, us, rfl, st, ra⟩ := (r1.stay hmd).seq
      exact ⟨a, us, rfl, .inl (st _ gx.gh (s.gx.h.trans gx.h)), q G' H' _ gx (WalkD.enum (fun H2 x y => .inl (st H2 x y)) ra)⟩
    · cases e2⟩
theorem i_zip {m m' : Md} {r : SA} (hg : Gl X "zip") (hm : X.mg "zip" = none) (ha : DA X [m, m'] [e, a] r) (hmd : m = .val ∨ m = .par := by first | exact Or.inl rfl | exact Or.inr rfl) (hmd' : m' = .val ∨ m' = .par := by first | exact Or.inl rfl | exact Or.inr rfl)
    (hs : starEach [e, a] X.env = (false, eval e X.env) :: starEach [a] X.env := by rfl) (hpl : (backTo pos (starEach [a] X.env)).any (·.1) = false := by rfl) :
    DI X (.Tuple elts kk tpos) (.Call (.Name "zip" p) [e, a] [] pos) false (sArgs zipI r) :=
  ⟨(pi_zip hg hm ha.pa hs hpl).imp fun σ H R ⟨G0, H0, G, ρ, ds, s, ed, q⟩ => by
    obtain ⟨l, e1, e2⟩ := bind_some ed
    refine ⟨G0, H0, G, ρ, l, s, e1, fun G' H' vs gx r => ?_⟩
    unfold zipI at e2
    split at e2
    · cases e2
      obtain ⟨v, w, rfl, r1, r2⟩ := r.two
      obtain ⟨a, us, rfl, st, ra⟩ := (r1.stay hmd).seq
      obtain ⟨b, ws, rfl, st2, rb⟩ := (r2.stay hmd').seq
      exact ⟨a, b, us, ws, rfl, .inl (st _ gx.gh (s.gx.h.trans gx.h)), .inl (st2 _ gx.gh (s.gx.h.trans gx.h)), q G' H' _ gx (WalkD.zip (fun H2 x y => .inl (st H2 x y)) (fun H2 x y => .inl (st2 H2 x y)) ra rb)⟩
    · cases e2⟩

/-! ### targets -/
abbrev SG := PyData → Rho → Option Rho
abbrev SGs := List PyData → Rho → Option Rho
def tG (K : PySem.W.Frag) (g : SG) : TG := fun v σ H Q => ∃ G0 H0 G ρ d ρ', Sok K G0 H0 G ρ σ H ∧ Rep K G d v ∧ g d ρ = some ρ' ∧ ∀ σ', Sok K G0 H0 G ρ' σ' H → Q σ' H
def tGs (K : PySem.W.Frag) (g : SGs) : TGs := fun vs σ H Q => ∃ G0 H0 G ρ ds ρ', Sok K G0 H0 G ρ σ H ∧ RepA K G ds vs ∧ g ds ρ = some ρ' ∧ ∀ σ', Sok K G0 H0 G ρ' σ' H → Q σ' H
structure DG (X : Cx) (tg : Expr) (g : SG) : Prop where
  pg : PG X tg (tG X.K g)
structure DGs (X : Cx) (tg : List Expr) (g : SGs) : Prop where
  pgs : PGs X tg (tGs X.K g)
theorem _root_.L2.PG.imp {e : Expr} {t t' : TG} (h : PG X e t) (w : ∀ v σ H Q, t' v σ H Q → t v σ H Q) : PG X e t' := ⟨fun pins s σ H v u Q I r q => h.run pins s σ H v u Q I r (w v σ H Q q)⟩
theorem _root_.L2.PGs.imp {e : List Expr} {t t' : TGs} (h : PGs X e t) (w : ∀ v σ H Q, t' v σ H Q → t v σ H Q) : PGs X e t' := ⟨fun pins s σ H v u Q I r q => h.run pins s σ H v u Q I r (w v σ H Q q)⟩
def gV (i : Nat) : SG := fun d ρ => if i < ρ.length then some (ρ.set i (.val d)) else none
def gsNil : SGs := fun ds ρ => match ds with
  | [] => some ρ
  | _ => none
def gsCons (g : SG) (r : SGs) : SGs := fun ds ρ => match ds with
  | d :: ds => (g d ρ).bind fun ρ' => r ds ρ'
  | [] => none
def gT (n : Nat) (r : SGs) : SG := fun d ρ => match d with
  | .tuple ds => if ds.length = n then r ds ρ else none
  | _ => none
variable {x : Str}
theorem g_name (i : Nat) (hN : X.N.Nodup) (hi : X.N[i]? = some x := by rfl) (hx : Loc X.env.scope x := by first | exact Or.inl rfl | exact Or.inr rfl) (hf : X.fn x = true ∨ X.env.scope.names.lookup x = some .local := by first | exact .inl rfl | exact .inr rfl | assumption) : DG X (.Name x pos) (gV i) :=
  ⟨(pg_name hN hi hx hf).imp fun v σ H Q ⟨G0, H0, G, ρ, d, ρ', s, r, e, q⟩ => by
    obtain ⟨hl, rfl⟩ := if_some e
    exact q _ (s.setVal hl r)⟩
theorem gs_nil : DGs X [] gsNil := ⟨pgs_nil.imp fun vs σ H Q ⟨G0, H0, G, ρ, d, ρ', s, r, e, q⟩ => by
  unfold gsNil at e
  split at e
  · cases e; cases r; exact ⟨rfl, q _ s⟩
  · cases e⟩
theorem gs_cons {es : List Expr} {g : SG} {r : SGs} (h1 : DG X e g) (h2 : DGs X es r) (hs : (assignEach (e :: es) X.env).map (·.2) = assign e X.env :: (assignEach es X.env).map (·.2) := by rfl) : DGs X (e :: es) (gsCons g r) :=
  ⟨(pgs_cons h1.pg h2.pgs hs).imp fun vs σ H Q ⟨G0, H0, G, ρ, d, ρ', s, r, e, q⟩ => by
    unfold gsCons at e
    split at e
    · cases r with
      | cons r1 r2 =>
        obtain ⟨ρ1, e1, e2⟩ := bind_some e
        exact ⟨_, _, rfl, G0, H0, G, ρ, _, ρ1, s, r1, e1, fun σ1 s1 => ⟨G0, H0, G, ρ1, _, ρ', s1, r2, e2, q⟩⟩
    · cases e⟩
theorem g_tup {es : List Expr} {k : Nat} {g : SGs} {n : Nat} (hc : X.calm = true) (h : DGs X es g)
    (hn : (assignEach es X.env).length = n := by rfl) (hst : (assignEach es X.env).findIdx? (·.1) = none := by rfl) : DG X (.Tuple es k pos) (gT n g) :=
  ⟨(pg_tup hc h.pgs hn hst).imp fun v σ H Q ⟨G0, H0, G, ρ, d, ρ', s, r, e, q⟩ => by
    unfold gT at e
    split at e
    · obtain ⟨hl, e⟩ := ite_some e
      cases r with
      | tup hq ra => exact ⟨_, _, rfl, s.gx.gh.sqt (sqtOf hq), by rw [← ra.len]; exact hl, G0, H0, G, ρ, _, ρ', s, ra, e, q⟩
    · cases e⟩
end
end DV

namespace DV
open PySem L2

/-! ### comprehensions -/
def wipeR (ρ : Rho) : List Nat → Rho
  | [] => ρ
  | v :: vs => (wipeR ρ vs).set v .un
theorem wipeR_len (ρ : Rho) : ∀ vs : List Nat, (wipeR ρ vs).length = ρ.length
  | [] => rfl
  | v :: vs => by unfold wipeR; rw [List.length_set, wipeR_len ρ vs]
section
variable {K : PySem.W.Frag} {G0 : Fr} {B H0 G H G' H' : Hp} {ρ : Rho} {σ : L2.St} {d : PyData} {ds : List PyData}
theorem Sok.setOut (s : Sok K G0 H0 G ρ σ H) {i : Nat} (hi : ¬ i < ρ.length) : Sok K G0 H0 G (ρ.set i .un) (σ.set i none) H := by
  rw [List.set_eq_of_length_le (by omega), List.set_eq_of_length_le (by rw [s.len]; omega)]; exact s
theorem Sok.wipe (s : Sok K G0 H0 G ρ σ H) : ∀ vs : List Nat, Sok K G0 H0 G (wipeR ρ vs) (L2.wipe σ vs) H
  | [] => s
  | v :: vs => by
    show Sok K G0 H0 G ((wipeR ρ vs).set v .un) ((L2.wipe σ vs).set v none) H
    by_cases h : v < (wipeR ρ vs).length
    · exact (s.wipe vs).setUn h none
    · exact (s.wipe vs).setOut h
end
def lcGo (g : SG) (t : SB) (e : SE) (ρ : Rho) : List PyData → Option (List PyData)
  | [] => some []
  | d :: ds => (g d ρ).bind fun ρ1 => (t ρ1).bind fun k => if k = true then (e ρ1).bind fun y => (lcGo g t e ρ ds).bind fun ys => some (y :: ys) else lcGo g t e ρ ds
def eLc (f : SI) (g : SG) (t : SB) (e : SE) (vs : List Nat) : SE := fun ρ => (f ρ).bind fun ds => (lcGo g t e (wipeR ρ vs) ds).bind fun ys => if ys.length ≤ sizeLine then some (.list ys) else none
def bYes : SB := fun _ => some true
structure DTs (X : Cx) (ifs : List Expr) (f : SB) : Prop where
  pts : PTs X ifs (tT X.K f)
theorem _root_.L2.PTs.imp {X : Cx} {e : List Expr} {t t' : TT} (h : PTs X e t) (w : ∀ σ H Q, t' σ H Q → t σ H Q) : PTs X e t' := ⟨fun pins s σ H Q I q => h.run pins s σ H Q I (w σ H Q q)⟩
section
variable {X : Cx} {tg e iter c : Expr} {f : SE} {fi : SI} {g : SG} {t : SB} {pos : Pos}
theorem ts_nil : DTs X [] bYes := ⟨pts_nil.imp fun σ H Q ⟨G0, H0, G, ρ, k, s, e, q⟩ => by
  cases e
  exact q G H (Gx.refl s.gx.gh)⟩
theorem ts_one (h : DT X c t) : DTs X [c] t := ⟨pts_one h.pt⟩
/-- the target of a comprehension stores into the block's own slots alone -/
def GOwn (g : SG) (vs : List Nat) : Prop := ∀ d (ρ ρ' : Rho), g d ρ = some ρ' → ρ'.length = ρ.length
theorem wipe_eq (vs : List Nat) (σ σ' : L2.St) (hl : σ'.length = σ.length) (h : ∀ i, i ∉ vs → σ'[i]? = σ[i]?) : L2.wipe σ' vs = L2.wipe σ vs := by
  apply List.ext_getElem?
  intro i
  have get : ∀ (τ : L2.St) (vs : List Nat), (L2.wipe τ vs)[i]? = if i ∈ vs ∧ i < τ.length then some none else τ[i]? := by
    intro τ vs
    induction vs with
    | nil => simp [L2.wipe]
    | cons v r ih =>
      show ((L2.wipe τ r).set v none)[i]? = _
      by_cases hv : v = i
      · subst hv
        by_cases hlt : v < τ.length
        · rw [List.getElem?_set_self (by rw [wipe_length]; exact hlt), if_pos ⟨List.mem_cons_self, hlt⟩]
        · rw [List.set_eq_of_length_le (by rw [wipe_length]; omega), ih, if_neg (fun z => hlt z.2), if_neg (fun z => hlt z.2)]
      · rw [List.getElem?_set_ne hv, ih]
        by_cases hr : i ∈ r ∧ i < τ.length
        · rw [if_pos hr, if_pos ⟨List.mem_cons_of_mem _ hr.1, hr.2⟩]
        · rw [if_neg hr, if_neg (fun z => hr ⟨(List.mem_cons.mp z.1).resolve_left (fun q => hv q.symm), z.2⟩)]
  rw [get, get, hl]
  by_cases hi : i ∈ vs
  · by_cases hlt : i < σ.length
    · rw [if_pos ⟨hi, hlt⟩, if_pos ⟨hi, hlt⟩]
    · rw [if_neg (fun z => hlt z.2), if_neg (fun z => hlt z.2), List.getElem?_eq_none (by omega), List.getElem?_eq_none (by omega)]
  · rw [if_neg (fun z => hi z.1), if_neg (fun z => hi z.1)]; exact h i hi
end
/-! targets that touch the slots vs alone: their readings with that fact -/
def tGw (K : PySem.W.Frag) (vs : List Nat) (g : SG) : TG := fun v σ H Q => ∃ G0 H0 G ρ d ρ', Sok K G0 H0 G ρ σ H ∧ Rep K G d v ∧ g d ρ = some ρ' ∧ ∀ σ', σ'.length = σ.length → (∀ i, i ∉ vs → σ'[i]? = σ[i]?) → Sok K G0 H0 G ρ' σ' H → Q σ' H
def tGws (K : PySem.W.Frag) (vs : List Nat) (g : SGs) : TGs := fun us σ H Q => ∃ G0 H0 G ρ ds ρ', Sok K G0 H0 G ρ σ H ∧ RepA K G ds us ∧ g ds ρ = some ρ' ∧ ∀ σ', σ'.length = σ.length → (∀ i, i ∉ vs → σ'[i]? = σ[i]?) → Sok K G0 H0 G ρ' σ' H → Q σ' H
structure DGw (X : Cx) (vs : List Nat) (tg : Expr) (g : SG) : Prop where
  pg : PG X tg (tGw X.K vs g)
structure DGws (X : Cx) (vs : List Nat) (tg : List Expr) (g : SGs) : Prop where
  pgs : PGs X tg (tGws X.K vs g)
section
variable {X : Cx} {tg e : Expr} {vs : List Nat} {pos : Pos} {x : Str}
theorem gw_name (i : Nat) (hN : X.N.Nodup) (hv : i ∈ vs := by decide) (hi : X.N[i]? = some x := by rfl) (hx : Loc X.env.scope x := by first | exact Or.inl rfl | exact Or.inr rfl) (hf : X.fn x = true ∨ X.env.scope.names.lookup x = some .local := by first | exact .inl rfl | exact .inr rfl | assumption) : DGw X vs (.Name x pos) (gV i) :=
  ⟨(pg_name hN hi hx hf).imp fun v σ H Q ⟨G0, H0, G, ρ, d, ρ', s, r, e, q⟩ => by
    obtain ⟨hl, rfl⟩ := if_some e
    exact q _ (List.length_set ..) (fun j hj => List.getElem?_set_ne (show i ≠ j from fun z => hj (z ▸ hv))) (s.setVal hl r)⟩
theorem gws_nil : DGws X vs [] gsNil := ⟨pgs_nil.imp fun us σ H Q ⟨G0, H0, G, ρ, d, ρ', s, r, e, q⟩ => by
  unfold gsNil at e
  split at e
  · cases e; cases r; exact ⟨rfl, q _ rfl (fun _ _ => rfl) s⟩
  · cases e⟩
theorem gws_cons {es : List Expr} {g : SG} {r : SGs} (h1 : DGw X vs e g) (h2 : DGws X vs es r) (hs : (assignEach (e :: es) X.env).map (·.2) = assign e X.env :: (assignEach es X.env).map (·.2) := by rfl) : DGws X vs (e :: es) (gsCons g r) :=
  ⟨(pgs_cons h1.pg h2.pgs hs).imp fun us σ H Q ⟨G0, H0, G, ρ, d, ρ', s, r, e, q⟩ => by
    unfold gsCons at e
    split at e
    · cases r with
      | cons r1 r2 =>
        obtain ⟨ρ1, e1, e2⟩ := bind_some e
        exact ⟨_, _, rfl, G0, H0, G, ρ, _, ρ1, s, r1, e1, fun σ1 l1 k1 s1 => ⟨G0, H0, G, ρ1, _, ρ', s1, r2, e2, fun σ2 l2 k2 s2 => q σ2 (l2.trans l1) (fun i hi => (k2 i hi).trans (k1 i hi)) s2⟩⟩
    · cases e⟩
theorem gw_tup {es : List Expr} {k : Nat} {g : SGs} {n : Nat} (hc : X.calm = true) (h : DGws X vs es g)
    (hn : (assignEach es X.env).length = n := by rfl) (hst : (assignEach es X.env).findIdx? (·.1) = none := by rfl) : DGw X vs (.Tuple es k pos) (gT n g) :=
  ⟨(pg_tup hc h.pgs hn hst).imp fun v σ H Q ⟨G0, H0, G, ρ, d, ρ', s, r, e, q⟩ => by
    unfold gT at e
    split at e
    · obtain ⟨hl, e⟩ := ite_some e
      cases r with
      | tup hq ra => exact ⟨_, _, rfl, s.gx.gh.sqt (sqtOf hq), by rw [← ra.len]; exact hl, G0, H0, G, ρ, _, ρ', s, ra, e, q⟩
    · cases e⟩
end
section
variable {X : Cx} {tg elt iter : Expr} {f : SE} {fi : SI} {g : SG} {t : SB} {pos : Pos} {ifs : List Expr} {scope : Scope} {own : List (Str × Nat)}
/-- the heart of a comprehension over WalkD -/
theorem lc_loop {K : PySem.W.Frag} {G0 : Fr} {H0 G H : Hp} {ρ : Rho} {σ : L2.St} {vs : List Nat} {J : It} {ds ys : List PyData} {D : Addr} {Q : V → Hp → Prop}
    (s : Sok K G0 H0 G ρ σ H) (w : WalkD K H G J ds) (hys : lcGo g t f (wipeR ρ vs) ds = some ys) (hl : ys.length ≤ sizeLine) (hD : H D = none)
    (q : ∀ G' H' v, Gx G H G' H' → RM K H0 H .new G' H' (.list ys) v → Q v H') :
    ∃ W : Nat → Nat → Hp → Prop, (∃ m, W 0 m (upd H D (.lst []))) ∧ ∀ i m H, W i m H →
      (J.stop i H ∧ Q (.ref D) H) ∨ (J.go i H ∧ ∃ Nx : Hp → Prop, (∀ H', Nx H' → ∃ m', m' < m ∧ W (i + 1) m' H') ∧ ∀ x H', J.yld i H x H' → tGw K vs g x (L2.wipe σ vs) H' fun σ2 H2 => L2.wipe σ2 vs = L2.wipe σ vs ∧ tT K t σ2 H2 fun b H3 =>
        if b = true then tE K .val f σ2 H3 fun y H4 => ∃ acc, H4 D = some (.lst acc) ∧ acc.length < sizeLine ∧ Nx (upd H4 D (.lst (acc ++ [y]))) else Nx H3) := by
  -- the state ahead of turn i: what is made so far, what is left
  let St (i : Nat) (Hi : Hp) : Prop := ∃ Gi done rest us, Gx G H Gi Hi ∧ Gi D = none ∧ Hi D = some (.lst us) ∧ RepA K Gi done us ∧ ys = done ++ rest ∧ i ≤ ds.length ∧ lcGo g t f (wipeR ρ vs) (ds.drop i) = some rest
  refine ⟨fun i m Hi => m = ds.length - i ∧ St i Hi, ⟨_, rfl, G, [], ys, [], Gx.mine s.gx.gh hD, s.gx.gh.back hD, upd_same, .nil, rfl, Nat.zero_le _, hys⟩, ?_⟩
  rintro i m Hi ⟨rfl, Gi, done, rest, us, gx, gD, eD, ra, ey, hi, hr⟩
  have si := s.gx' gx
  by_cases hlt : i < ds.length
  · refine .inr ⟨w.goes i Gi Hi hlt gx.g gx.gh gx.h, St (i + 1), fun H' p => ⟨_, by omega, rfl, p⟩, fun x H' hy => ?_⟩
    have hd := List.getElem?_eq_getElem hlt
    obtain ⟨G3, gx3, rx⟩ := w.yields i _ Gi Hi x H' hd gx.g gx.gh gx.h hy
    rw [List.drop_eq_getElem_cons hlt] at hr
    obtain ⟨ρ1, e1, hr⟩ := bind_some hr
    obtain ⟨k, e2, hr⟩ := bind_some hr
    have s3 := (si.wipe vs).gx' gx3
    refine ⟨G0, H0, G3, _, _, ρ1, s3, rx, e1, fun σ2 l2 k2 s2 => ⟨?_, ?_⟩⟩
    · rw [wipe_eq vs (L2.wipe σ vs) σ2 l2 k2]
      exact wipe_eq vs σ (L2.wipe σ vs) (wipe_length _ _) fun j hj => wipe_out hj
    · refine ⟨G0, H0, G3, ρ1, k, s2, e2, fun G4 H4 gx4 => ?_⟩
      have gxa := (gx.trans gx3).trans gx4
      have gx34 := gx3.trans gx4
      have noD : ∀ {G' H' : Hp}, Gx Gi Hi G' H' → G' D = none ∧ H' D = some (.lst us) := fun {G' H'} gxq => by
        refine ⟨?_, gxq.h _ _ eD⟩
        cases z : G' D with
        | none => rfl
        | some u =>
          rcases gxq.nw D (by rw [z]; simp) with y | y
          · exact absurd gD y
          · rw [eD] at y; exact (show False from y).elim
      cases k with
      | false =>
        refine iteF ⟨G4, done, rest, us, gxa, (noD gx34).1, (noD gx34).2, ra.mono gx34.g, ey, hlt, hr⟩
      | true =>
        refine iteT ?_
        obtain ⟨y, e3, hr⟩ := bind_some (show _ = _ from hr)
        obtain ⟨r2, e4, hr⟩ := bind_some hr
        cases hr
        refine ⟨G0, H0, G4, ρ1, y, s2.gx' gx4, e3, fun G5 H5 v gx5 r5 => ?_⟩
        have gx35 := gx34.trans gx5
        obtain ⟨n1, n2⟩ := noD gx35
        refine ⟨us, n2, ?_, G5, done ++ [y], r2, us ++ [v], ?_, n1, upd_same, (ra.mono gx35.g).app (.cons r5 .nil), by rw [ey]; simp, hlt, e4⟩
        · rw [← ra.len]
          have : ys.length = done.length + (r2.length + 1) := by rw [ey]; simp
          omega
        · have z := gx.trans gx35
          refine ⟨z.g, z.h.mut hD, z.gh.mut n1, z.nw⟩
  · have ei : i = ds.length := by omega
    subst ei
    rw [List.drop_length] at hr
    cases hr
    refine .inl ⟨w.stops Gi Hi gx.g gx.gh gx.h, q Gi Hi _ gx ⟨D, rfl, hD, gD, .lst eD ?_⟩⟩
    rw [ey, List.append_nil]; exact ra
theorem d_lc {wide : Bool} {vs : List Nat} (hc : X.calm = true) (hN : X.N.Nodup) (hvs : own.map (·.2) = vs) (hi : DI X tg iter wide fi) (ok : BlkOk X.N X.env.scope scope own)
    (hg : ∀ (s : Shared) (H : Hp) (C : Addr) (cl : List (Str × Addr)) (fp : List Addr), DGw (X.blk s H scope (compEnvC scope cl C X.env) fp) vs tg g)
    (ht : ∀ (s : Shared) (H : Hp) (C : Addr) (cl : List (Str × Addr)) (fp : List Addr), DTs (X.blk s H scope (compEnvC scope cl C X.env) fp) ifs t)
    (he : ∀ (s : Shared) (H : Hp) (C : Addr) (cl : List (Str × Addr)) (fp : List Addr), DX (X.blk s H scope (compEnvC scope cl C X.env) fp) .val elt f)
    (hs : ∀ x, foldedSetIterable iter X.env x = pure x := by intro _; rfl) : DX X .new (.ListComp elt [⟨tg, iter, ifs, 0⟩] scope pos) (eLc fi g t f vs) := by
  subst hvs
  exact ⟨(pe_lc hc hN hi.pi ok (fun s H C cl fp => (hg s H C cl fp).pg) (fun s H C cl fp => (ht s H C cl fp).pts) (fun s H C cl fp => (he s H C cl fp).pe) hs).imp fun σ H Q ⟨G0, H0, G, ρ, d, s, ed, q⟩ => by
    obtain ⟨ds, e1, ed⟩ := bind_some ed
    obtain ⟨ys, e2, ed⟩ := bind_some ed
    obtain ⟨hl, rfl⟩ := if_some ed
    refine ⟨G0, H0, G, ρ, ds, s, e1, fun G1 H1 J gx1 w => fun D hD => ?_⟩
    have w' : WalkD X.K H1 G1 J ds := by
      cases wide with
      | true => exact w
      | false =>
        have z := s.gx.h.trans gx1.h
        exact ⟨fun i G2 H2 a b c e => w.goes i G2 H2 a b c (z.trans e), fun G2 H2 b c e => w.stops G2 H2 b c (z.trans e), fun i d G2 H2 x H3 a b c e => w.yields i d G2 H2 x H3 a b c (z.trans e)⟩
    exact lc_loop (s.gx' gx1) w' e2 hl hD fun G' H' v gx r => q G' H' v (gx1.trans gx) (r.start gx1.h)⟩
end
end DV

namespace DV
open PySem L2

/-! ### statements -/
def OutOk (K : PySem.W.Frag) (rm : Md) (G0 : Fr) (H0 G : Hp) (D : Ends) : Out → Prop
  | .nx ρ' => ∀ G' σ' H', Ex G G' → Sok K G0 H0 G' ρ' σ' H' → D.nx σ' H'
  | .bk ρ' => ∀ G' σ' H', Ex G G' → Sok K G0 H0 G' ρ' σ' H' → D.bk σ' H'
  | .ct ρ' => ∀ G' σ' H', Ex G G' → Sok K G0 H0 G' ρ' σ' H' → D.ct σ' H'
  | .rt d => ∀ G' H' v, Gx G0.g H0 G' H' → RM K H0 H0 rm G' H' d v → D.rt v H'
def tS (K : PySem.W.Frag) (rm : Md) (f : SS) : TS := fun D σ H => ∃ G0 H0 G ρ o, Sok K G0 H0 G ρ σ H ∧ f ρ = some o ∧ OutOk K rm G0 H0 G D o
structure DS (X : Cx) (rm : Md) (st : Stmt) (f : SS) : Prop where
  ps : PS X st (tS X.K rm f)
structure DB (X : Cx) (rm : Md) (st : List Stmt) (f : SS) : Prop where
  pss : PSs X st (tS X.K rm f)
theorem OutOk.grow {K : PySem.W.Frag} {rm : Md} {G0 : Fr} {H0 G G1 : Hp} {D : Ends} {o : Out} (e : Ex G G1) (h : OutOk K rm G0 H0 G D o) : OutOk K rm G0 H0 G1 D o := by
  cases o with
  | nx ρ => exact fun G' σ' H' e2 s => h G' σ' H' (e.trans e2) s
  | bk ρ => exact fun G' σ' H' e2 s => h G' σ' H' (e.trans e2) s
  | ct ρ => exact fun G' σ' H' e2 s => h G' σ' H' (e.trans e2) s
  | rt d => exact h
def sNext : SS := fun ρ => some (.nx ρ)
def sSeqn (f g : SS) : SS := fun ρ => (f ρ).bind fun o => match o with
  | .nx ρ' => g ρ'
  | o => some o
section
variable {X : Cx} {rm : Md} {st : Stmt} {rest b1 b2 : List Stmt} {f g : SS} {e c : Expr} {fe : SE} {t : SB} {pos : Pos} {x : Str}
theorem b_nil : DB X rm [] sNext := ⟨pss_nil.imp fun D σ H ⟨G0, H0, G, ρ, o, s, e, q⟩ => by
  cases e
  exact q G σ H (Ex.refl _) s⟩
theorem seq_of {K : PySem.W.Frag} {t u : TS} (h1 : ∀ D σ H, tS K rm f D σ H → t D σ H) (h2 : ∀ D σ H, tS K rm g D σ H → u D σ H) : ∀ D σ H, tS K rm (sSeqn f g) D σ H → tSeq t u D σ H := fun D σ H ⟨G0, H0, G, ρ, o, s, e, q⟩ => by
  obtain ⟨o1, e1, e2⟩ := bind_some e
  refine h1 _ σ H ⟨G0, H0, G, ρ, o1, s, e1, ?_⟩
  cases o1 with
  | nx ρ' => exact fun G' σ' H' eg s' => h2 D σ' H' ⟨G0, H0, G', ρ', o, s', e2, q.grow eg⟩
  | bk ρ' => cases e2; exact q
  | ct ρ' => cases e2; exact q
  | rt d => cases e2; exact q
theorem b_cons (h1 : DS X rm st f) (h2 : DB X rm rest g) : DB X rm (st :: rest) (sSeqn f g) := ⟨(pss_cons h1.ps h2.pss).imp (seq_of (fun _ _ _ h => h) fun _ _ _ h => h)⟩
theorem b_one (h1 : DS X rm st f) : DB X rm [st] f := ⟨pss_one h1.ps⟩
def sBrk : SS := fun ρ => some (.bk ρ)
def sCnt : SS := fun ρ => some (.ct ρ)
theorem s_pass : DS X rm (.Pass pos) sNext := ⟨ps_pass.imp fun D σ H ⟨G0, H0, G, ρ, o, s, e, q⟩ => by
  cases e
  exact q G σ H (Ex.refl _) s⟩
theorem s_break : DS X rm (.Break pos) sBrk := ⟨ps_break.imp fun D σ H ⟨G0, H0, G, ρ, o, s, e, q⟩ => by
  cases e
  exact q G σ H (Ex.refl _) s⟩
theorem s_continue : DS X rm (.Continue pos) sCnt := ⟨ps_continue.imp fun D σ H ⟨G0, H0, G, ρ, o, s, e, q⟩ => by
  cases e
  exact q G σ H (Ex.refl _) s⟩
def sExpr (f : SE) : SS := fun ρ => (f ρ).bind fun _ => some (.nx ρ)
theorem s_expr {m : Md} (he : DX X m e fe) (hs : swapsWith e none pos.line X.env = pure false := by rfl) : DS X rm (.Expr e pos) (sExpr fe) :=
  ⟨(ps_expr he.pe hs).imp fun D σ H ⟨G0, H0, G, ρ, o, s, e, q⟩ => by
    obtain ⟨d, e1, e2⟩ := bind_some e
    cases e2
    exact ⟨G0, H0, G, ρ, d, s, e1, fun G' H' v gx r => q G' σ H' gx.g (s.gx' gx)⟩⟩
def sRet (f : SE) : SS := fun ρ => (f ρ).bind fun d => some (.rt d)
theorem s_ret (he : DX X rm e fe) (hr : rm = .val ∨ rm = .new := by first | exact Or.inl rfl | exact Or.inr rfl) : DS X rm (.Return (some e) pos) (sRet fe) :=
  ⟨(ps_ret he.pe).imp fun D σ H ⟨G0, H0, G, ρ, o, s, e, q⟩ => by
    obtain ⟨d, e1, e2⟩ := bind_some e
    cases e2
    refine ⟨G0, H0, G, ρ, d, s, e1, fun G' H' v gx r => q G' H' v (s.gx.trans gx) ?_⟩
    exact r.start s.gx.h⟩
/-- return of an own list by its name -/
def sRetOwn (i : Nat) : SS := fun ρ => match ρ[i]? with
  | some (.own d) => some (.rt d)
  | _ => none
theorem s_retOwn (i : Nat) {p : Pos} (hN : X.N[i]? = some x := by rfl) (hv : Vis X.env.scope x := by first | exact Or.inl rfl | exact Or.inr (Or.inl rfl) | exact Or.inr (Or.inr rfl)) (hd : (x == ("__debug__" : Str)) = false := by decide)
    (hcd : (x == ("__classdict__" : Str)) = false := by decide) : DS X .new (.Return (some (.Name x p)) pos) (sRetOwn i) :=
  ⟨(ps_ret (pe_var hN hv hd hcd)).imp fun D σ H ⟨G0, H0, G, ρ, o, s, e, q⟩ => by
    unfold sRetOwn at e
    split at e
    · cases e
      rename_i d h
      obtain ⟨a, h1, h2, h3, h4⟩ := s.own h
      exact ⟨_, h1, q G H _ s.gx ⟨a, rfl, h2, h3, h4⟩⟩
    · cases e⟩
def sRetN : SS := fun _ => some (.rt .none)
theorem s_retN : DS X .val (.Return none pos) sRetN := ⟨ps_retN.imp fun D σ H ⟨G0, H0, G, ρ, o, s, e, q⟩ => by
  cases e
  exact q G H _ s.gx .non⟩
def sIf (t : SB) (f g : SS) : SS := fun ρ => (t ρ).bind fun k => if k = true then f ρ else g ρ
theorem s_if (hc : DT X c t) (h1 : DB X rm b1 f) (h2 : DB X rm b2 g) : DS X rm (.If c b1 b2 pos) (sIf t f g) :=
  ⟨(ps_if hc.pt h1.pss h2.pss).imp fun D σ H ⟨G0, H0, G, ρ, o, s, e, q⟩ => by
    obtain ⟨k, e1, e2⟩ := bind_some e
    refine ⟨G0, H0, G, ρ, k, s, e1, fun G' H' gx => ?_⟩
    cases k with
    | true => exact iteT ⟨G0, H0, G', ρ, o, s.gx' gx, e2, q.grow gx.g⟩
    | false => exact iteF ⟨G0, H0, G', ρ, o, s.gx' gx, e2, q.grow gx.g⟩⟩

/-! ### stores -/
def sSet (i : Nat) (f : SE) : SS := fun ρ => (f ρ).bind fun d => if i < ρ.length then some (.nx (ρ.set i (.val d))) else none
def sOwn (i : Nat) (f : SE) : SS := fun ρ => (f ρ).bind fun d => if i < ρ.length then some (.nx (ρ.set i (.own d))) else none
theorem set_of {K : PySem.W.Frag} {i : Nat} : ∀ D σ H, tS K rm (sSet i fe) D σ H → tAsg (tE K .val fe) (gName i) D σ H := fun D σ H ⟨G0, H0, G, ρ, o, s, e, q⟩ => by
  obtain ⟨d, e1, e2⟩ := bind_some e
  obtain ⟨hl, rfl⟩ := if_some e2
  exact ⟨G0, H0, G, ρ, d, s, e1, fun G' H' v gx r => q G' _ H' gx.g ((s.gx' gx).setVal hl r)⟩
theorem own_of {K : PySem.W.Frag} {i : Nat} : ∀ D σ H, tS K rm (sOwn i fe) D σ H → tAsg (tE K .new fe) (gName i) D σ H := fun D σ H ⟨G0, H0, G, ρ, o, s, e, q⟩ => by
  obtain ⟨d, e1, e2⟩ := bind_some e
  obtain ⟨hl, rfl⟩ := if_some e2
  exact ⟨G0, H0, G, ρ, d, s, e1, fun G' H' v gx r => q G' _ H' gx.g (s.setOwn gx hl r)⟩
theorem s_set (i : Nat) {pos' : Pos} (hN : X.N.Nodup) (he : DX X .val e fe) (hi : X.N[i]? = some x := by rfl) (hx : Loc X.env.scope x := by first | exact Or.inl rfl | exact Or.inr rfl) (hs : swapsWith e (some (.Name x pos')) pos.line X.env = pure false := by rfl)
    (hf : X.fn x = true ∨ X.env.scope.names.lookup x = some .local := by first | exact .inl rfl | exact .inr rfl | assumption) : DS X rm (.Assign [.Name x pos'] e pos) (sSet i fe) := ⟨(ps_set hN hi hx he.pe hs hf).imp set_of⟩
theorem s_own (i : Nat) {pos' : Pos} (hN : X.N.Nodup) (he : DX X .new e fe) (hi : X.N[i]? = some x := by rfl) (hx : Loc X.env.scope x := by first | exact Or.inl rfl | exact Or.inr rfl) (hs : swapsWith e (some (.Name x pos')) pos.line X.env = pure false := by rfl)
    (hf : X.fn x = true ∨ X.env.scope.names.lookup x = some .local := by first | exact .inl rfl | exact .inr rfl | assumption) : DS X rm (.Assign [.Name x pos'] e pos) (sOwn i fe) := ⟨(ps_set hN hi hx he.pe hs hf).imp own_of⟩
def sAsg (f : SE) (g : SG) : SS := fun ρ => (f ρ).bind fun d => (g d ρ).bind fun ρ' => some (.nx ρ')
theorem s_asg {tg : Expr} {g : SG} (he : DX X .val e fe) (hg : DG X tg g) (hs : swapsWithSole [tg] e pos.line X.env = pure false := by rfl) (hw : swappedStores [tg] e X.env = pure none := by rfl)
    (h1 : (assignEach [tg] X.env).map (·.2) = [assign tg X.env] := by rfl) : DS X rm (.Assign [tg] e pos) (sAsg fe g) :=
  ⟨(ps_asg he.pe hg.pg hs hw h1).imp fun D σ H ⟨G0, H0, G, ρ, o, s, e, q⟩ => by
    obtain ⟨d, e1, e2⟩ := bind_some e
    obtain ⟨ρ', e3, e4⟩ := bind_some e2
    cases e4
    exact ⟨G0, H0, G, ρ, d, s, e1, fun G' H' v gx r => ⟨G0, H0, G', ρ, d, ρ', s.gx' gx, r, e3, fun σ' s' => q G' σ' H' gx.g s'⟩⟩⟩
/-- a name op= an int -/
def sAug (i : Nat) (F : PyData → PyData → Option PyData) (f : SE) : SS := fun ρ => (eV i ρ).bind fun x => (f ρ).bind fun y => (F x y).bind fun d => some (.nx (ρ.set i (.val d)))
def addI : PyData → PyData → Option PyData
  | .int i, .int j => some (.int (i + j))
  | _, _ => none
def subI : PyData → PyData → Option PyData
  | .int i, .int j => some (.int (i - j))
  | _, _ => none
theorem aug_of {op : Operator} {F : PyData → PyData → Option PyData} {k : Int → Int → Int} {i : Nat} (hF : ∀ x y d, F x y = some d → ∃ a b, x = .int a ∧ y = .int b ∧ d = .int (k a b)) :
    ∀ D σ H, tS X.K rm (sAug i F fe) D σ H → tAug i (tE X.K .val fe) (ipI k) D σ H := fun D σ H ⟨G0, H0, G, ρ, o, s, e, q⟩ => by
  obtain ⟨d1, e1, e2⟩ := bind_some e
  obtain ⟨d2, e3, e4⟩ := bind_some e2
  obtain ⟨d3, e5, e6⟩ := bind_some e4
  cases e6
  obtain ⟨a, b, rfl, rfl, rfl⟩ := hF _ _ _ e5
  unfold eV at e1
  split at e1
  · cases e1
    rename_i h
    have hi : i < ρ.length := (List.getElem?_eq_some_iff.mp h).1
    have z := s.slot i _ h
    generalize e2 : σ[i]?.getD none = w at z
    cases z with
    | val r =>
      cases r
      refine ⟨_, getD_some e2, G0, H0, G, ρ, _, s, e3, fun G' H' v gx r => ?_⟩
      cases (show Rep X.K G' (.int b) v from r)
      exact ⟨a, b, rfl, rfl, q G' _ H' gx.g ((s.gx' gx).setVal hi (.int _))⟩
  · cases e1
theorem s_augAdd (i : Nat) {pos' : Pos} (hN : X.N.Nodup) (he : DX X .val e fe) (hi : X.N[i]? = some x := by rfl) (hx : Loc X.env.scope x := by first | exact Or.inl rfl | exact Or.inr rfl)
    (hf : X.fn x = true ∨ X.env.scope.names.lookup x = some .local := by first | exact .inl rfl | exact .inr rfl | assumption) : DS X rm (.AugAssign (.Name x pos') .Add e pos) (sAug i addI fe) :=
  ⟨(ps_aug hN hi hx he.pe ip_add hf).imp (aug_of (op := .Add) fun x y d h => by
    unfold addI at h
    split at h
    · cases h; exact ⟨_, _, rfl, rfl, rfl⟩
    · cases h)⟩
theorem s_augSub (i : Nat) {pos' : Pos} (hN : X.N.Nodup) (he : DX X .val e fe) (hi : X.N[i]? = some x := by rfl) (hx : Loc X.env.scope x := by first | exact Or.inl rfl | exact Or.inr rfl)
    (hf : X.fn x = true ∨ X.env.scope.names.lookup x = some .local := by first | exact .inl rfl | exact .inr rfl | assumption) : DS X rm (.AugAssign (.Name x pos') .Sub e pos) (sAug i subI fe) :=
  ⟨(ps_aug hN hi hx he.pe ip_sub hf).imp (aug_of (op := .Sub) fun x y d h => by
    unfold subI at h
    split at h
    · cases h; exact ⟨_, _, rfl, rfl, rfl⟩
    · cases h)⟩
/-- name = [..] on one line -/
theorem s_setLcB (i : Nat) {py spos : Pos} {tg elt iter : Expr} {ifs : List Expr} {scope : Scope} {own : List (Str × Nat)} {fi : SI} {g : SG} {wide : Bool} {y : Str} (hN : X.N.Nodup) (hc : X.calm = true)
    (hsw : swapsWith (.ListComp elt [⟨tg, iter, ifs, 0⟩] scope pos) (some (.Name y py)) spos.line X.env = pure true) (hi : DI X tg iter wide fi) (ok : BlkOk X.N X.env.scope scope own)
    (hg : ∀ (s : Shared) (H : Hp) (C : Addr) (cl : List (Str × Addr)) (fp : List Addr), DGw (X.blk s H scope (compEnvC scope cl C X.env) fp) (own.map (·.2)) tg g)
    (ht : ∀ (s : Shared) (H : Hp) (C : Addr) (cl : List (Str × Addr)) (fp : List Addr), DTs (X.blk s H scope (compEnvC scope cl C X.env) fp) ifs t)
    (he : ∀ (s : Shared) (H : Hp) (C : Addr) (cl : List (Str × Addr)) (fp : List Addr), DX (X.blk s H scope (compEnvC scope cl C X.env) fp) .val elt fe)
    (hy : X.N[i]? = some y := by rfl) (hyl : X.env.scope.names.lookup y = some .local := by rfl) (hs : ∀ x, foldedSetIterable iter X.env x = pure x := by intro _; rfl) :
    (DS X rm (.Assign [.Name y py] (.ListComp elt [⟨tg, iter, ifs, 0⟩] scope pos) spos) (sSet i (eLc fi g t fe (own.map (·.2))))) ∧ DS X rm (.Assign [.Name y py] (.ListComp elt [⟨tg, iter, ifs, 0⟩] scope pos) spos) (sOwn i (eLc fi g t fe (own.map (·.2)))) := by
  have base := ps_setLc (i := i) (py := py) (spos := spos) (g := tGw X.K (own.map (·.2)) g) (tt := tT X.K t) (te := tE X.K .val fe) hc hN hy hyl hsw hi.pi ok (fun s H C cl fp => (hg s H C cl fp).pg) (fun s H C cl fp => (ht s H C cl fp).pts) (fun s H C cl fp => (he s H C cl fp).pe) hs
  have key : ∀ (σ : L2.St) (H : Hp) (Q : VK), tE X.K .new (eLc fi g t fe (own.map (·.2))) σ H Q → tLc (tI X.K wide fi) (tGw X.K (own.map (·.2)) g) (tT X.K t) (tE X.K .val fe) (own.map (·.2)) σ H Q := fun σ H Q ⟨G0, H0, G, ρ, d, s, ed, q⟩ => by
    obtain ⟨ds, e1, ed⟩ := bind_some ed
    obtain ⟨ys, e2, ed⟩ := bind_some ed
    obtain ⟨hl, rfl⟩ := if_some ed
    refine ⟨G0, H0, G, ρ, ds, s, e1, fun G1 H1 J gx1 w => fun D hD => ?_⟩
    have w' : WalkD X.K H1 G1 J ds := by
      cases wide with
      | true => exact w
      | false =>
        have z := s.gx.h.trans gx1.h
        exact ⟨fun i G2 H2 a b c e => w.goes i G2 H2 a b c (z.trans e), fun G2 H2 b c e => w.stops G2 H2 b c (z.trans e), fun i d G2 H2 x H3 a b c e => w.yields i d G2 H2 x H3 a b c (z.trans e)⟩
    exact lc_loop (s.gx' gx1) w' e2 hl hD fun G' H' v gx r => q G' H' v (gx1.trans gx) (r.start gx1.h)
  have fz : ∀ (σ : L2.St) (H : Hp) (Q : VK), tE X.K .val (eLc fi g t fe (own.map (·.2))) σ H Q → tE X.K .new (eLc fi g t fe (own.map (·.2))) σ H Q := fun σ H Q ⟨G0, H0, G, ρ, d, s, ed, q⟩ => ⟨G0, H0, G, ρ, d, s, ed, fun G' H' v x r => by
    obtain ⟨_, _, ed2⟩ := bind_some ed
    obtain ⟨_, _, ed3⟩ := bind_some ed2
    obtain ⟨_, rfl⟩ := if_some ed3
    obtain ⟨G2, x2, _, r2⟩ := RM.freezeL x r
    exact q G2 H' v x2 r2⟩
  exact ⟨⟨base.imp fun D σ H h => key σ H _ (fz σ H _ (set_of D σ H h))⟩, ⟨base.imp fun D σ H h => key σ H _ (own_of D σ H h)⟩⟩
theorem s_setLc (i : Nat) {py spos : Pos} {tg elt iter : Expr} {ifs : List Expr} {scope : Scope} {own : List (Str × Nat)} {fi : SI} {g : SG} {wide : Bool} {y : Str} {vs : List Nat} (hN : X.N.Nodup) (hvs : own.map (·.2) = vs) (hc : X.calm = true)
    (hsw : swapsWith (.ListComp elt [⟨tg, iter, ifs, 0⟩] scope pos) (some (.Name y py)) spos.line X.env = pure true) (hi : DI X tg iter wide fi) (ok : BlkOk X.N X.env.scope scope own)
    (hg : ∀ (s : Shared) (H : Hp) (C : Addr) (cl : List (Str × Addr)) (fp : List Addr), DGw (X.blk s H scope (compEnvC scope cl C X.env) fp) vs tg g)
    (ht : ∀ (s : Shared) (H : Hp) (C : Addr) (cl : List (Str × Addr)) (fp : List Addr), DTs (X.blk s H scope (compEnvC scope cl C X.env) fp) ifs t)
    (he : ∀ (s : Shared) (H : Hp) (C : Addr) (cl : List (Str × Addr)) (fp : List Addr), DX (X.blk s H scope (compEnvC scope cl C X.env) fp) .val elt fe)
    (hy : X.N[i]? = some y := by rfl) (hyl : X.env.scope.names.lookup y = some .local := by rfl) (hs : ∀ x, foldedSetIterable iter X.env x = pure x := by intro _; rfl) :
    DS X rm (.Assign [.Name y py] (.ListComp elt [⟨tg, iter, ifs, 0⟩] scope pos) spos) (sSet i (eLc fi g t fe vs)) := by
  subst hvs
  exact (s_setLcB i hN hc hsw hi ok hg ht he hy hyl hs).1
theorem s_ownLc (i : Nat) {py spos : Pos} {tg elt iter : Expr} {ifs : List Expr} {scope : Scope} {own : List (Str × Nat)} {fi : SI} {g : SG} {wide : Bool} {y : Str} {vs : List Nat} (hN : X.N.Nodup) (hvs : own.map (·.2) = vs) (hc : X.calm = true)
    (hsw : swapsWith (.ListComp elt [⟨tg, iter, ifs, 0⟩] scope pos) (some (.Name y py)) spos.line X.env = pure true) (hi : DI X tg iter wide fi) (ok : BlkOk X.N X.env.scope scope own)
    (hg : ∀ (s : Shared) (H : Hp) (C : Addr) (cl : List (Str × Addr)) (fp : List Addr), DGw (X.blk s H scope (compEnvC scope cl C X.env) fp) vs tg g)
    (ht : ∀ (s : Shared) (H : Hp) (C : Addr) (cl : List (Str × Addr)) (fp : List Addr), DTs (X.blk s H scope (compEnvC scope cl C X.env) fp) ifs t)
    (he : ∀ (s : Shared) (H : Hp) (C : Addr) (cl : List (Str × Addr)) (fp : List Addr), DX (X.blk s H scope (compEnvC scope cl C X.env) fp) .val elt fe)
    (hy : X.N[i]? = some y := by rfl) (hyl : X.env.scope.names.lookup y = some .local := by rfl) (hs : ∀ x, foldedSetIterable iter X.env x = pure x := by intro _; rfl) :
    DS X rm (.Assign [.Name y py] (.ListComp elt [⟨tg, iter, ifs, 0⟩] scope pos) spos) (sOwn i (eLc fi g t fe vs)) := by
  subst hvs
  exact (s_setLcB i hN hc hsw hi ok hg ht he hy hyl hs).2

/-! ### freezing, a ghost -/
def sFz (i : Nat) (f : SS) : SS := fun ρ => match ρ[i]? with
  | some (.own d) => f (ρ.set i (.val d))
  | some (.val _) => f ρ
  | _ => none
def tFzS (t : TS) : TS := fun D σ H => t D σ H ∨ ∃ d u, H d = some u ∧ Mut (some u) ∧ ∀ od, t D σ (upd H d (.frz od u))
theorem ps_fz {t : TS} (h : PS X st t) : PS X st (tFzS t) := ⟨fun pins s σ H D I q => by
  rcases q with q | ⟨d, w, hd, mu, q⟩
  · exact h.run pins s σ H D I q
  · obtain ⟨od, I2⟩ := I.lock hd mu
    exact h.run pins s σ _ D I2 (q od)⟩
theorem fz_of {K : PySem.W.Frag} {i : Nat} {D : Ends} {σ : L2.St} {H : Hp} (h : tS K rm (sFz i f) D σ H) : tFzS (tS K rm f) D σ H := by
  obtain ⟨G0, H0, G, ρ, o, s, e, q⟩ := h
  unfold sFz at e
  split at e
  · rename_i d h
    obtain ⟨a, u, hu, r⟩ := s.freeze h
    rcases r with ⟨G', eg, s'⟩ | ⟨mu, r⟩
    · exact .inl ⟨G0, H0, G', _, o, s', e, q.grow eg⟩
    · exact .inr ⟨a, u, hu, mu, fun od => (r od).elim fun G' z => ⟨G0, H0, G', _, o, z.2, e, q.grow z.1⟩⟩
  · exact .inl ⟨G0, H0, G, ρ, o, s, e, q⟩
  · cases e
theorem s_fz (i : Nat) (h : DS X rm st f) : DS X rm st (sFz i f) := ⟨(ps_fz h.ps).imp fun D σ H q => fz_of q⟩

/-! ### loops -/
def forGo (g : SG) (b : SS) : List PyData → Rho → Option Out
  | [], ρ => some (.nx ρ)
  | d :: ds, ρ => (g d ρ).bind fun ρ1 => (b ρ1).bind fun o => match o with
    | .nx ρ' => forGo g b ds ρ'
    | .ct ρ' => forGo g b ds ρ'
    | .bk ρ' => some (.nx ρ')
    | .rt d => some (.rt d)
def sFor (fi : SI) (g : SG) (b : SS) : SS := fun ρ => (fi ρ).bind fun ds => forGo g b ds ρ
theorem s_for {tg iter : Expr} {body : List Stmt} {fi : SI} {g : SG} (hp : PassesOwn (model X.prog X.w) X.A X.env X.xe) (hc : X.calm = true) (hi : DI X tg iter false fi) (hg : DG X tg g) (hb : DB X rm body f)
    (hs : ∀ x, foldedSetIterable iter X.env x = pure x := by intro _; rfl) : DS X rm (.For tg iter body [] pos) (sFor fi g f) :=
  ⟨(ps_for hp hc hi.pi hg.pg hb.pss hs).imp fun D σ H ⟨G0, H0, G, ρ, o, s, e, q⟩ => by
    obtain ⟨ds, e1, e2⟩ := bind_some e
    refine ⟨G0, H0, G, ρ, ds, s, e1, fun G1 H1 J gx1 w => ?_⟩
    let St (i : Nat) (σi : L2.St) (Hi : Hp) : Prop := ∃ Gi ρi, Ex G1 Gi ∧ Sok X.K G0 H0 Gi ρi σi Hi ∧ i ≤ ds.length ∧ forGo g f (ds.drop i) ρi = some o
    refine ⟨fun i m σi Hi => m = ds.length - i ∧ St i σi Hi, ⟨_, rfl, G1, ρ, Ex.refl _, s.gx' gx1, Nat.zero_le _, e2⟩, ?_⟩
    rintro i m σi Hi ⟨rfl, Gi, ρi, eg, si, hi, hr⟩
    by_cases hlt : i < ds.length
    · refine .inr ⟨w.goes i Gi Hi hlt eg si.gx.gh si.gx.h, St (i + 1), fun σ' H' p => ⟨_, by omega, rfl, p⟩, fun y H' hy => ?_⟩
      have hd := List.getElem?_eq_getElem hlt
      obtain ⟨G3, gx3, rx⟩ := w.yields i _ Gi Hi y H' hd eg si.gx.gh si.gx.h hy
      rw [List.drop_eq_getElem_cons hlt] at hr
      obtain ⟨ρ1, e1, hr⟩ := bind_some hr
      obtain ⟨o1, e2, hr⟩ := bind_some hr
      refine ⟨G0, H0, G3, ρi, _, ρ1, si.gx' gx3, rx, e1, fun σ2 s2 => ⟨G0, H0, G3, ρ1, o1, s2, e2, ?_⟩⟩
      have eg3 := eg.trans gx3.g
      cases o1 with
      | nx ρ' => exact fun G' σ' H' e4 s4 => ⟨G', ρ', eg3.trans e4, s4, hlt, hr⟩
      | ct ρ' => exact fun G' σ' H' e4 s4 => ⟨G', ρ', eg3.trans e4, s4, hlt, hr⟩
      | bk ρ' =>
        cases hr
        exact fun G' σ' H' e4 s4 => q G' σ' H' (gx1.g.trans (eg3.trans e4)) s4
      | rt d =>
        cases hr
        exact q
    · have ei : i = ds.length := by omega
      subst ei
      rw [List.drop_length] at hr
      cases hr
      exact .inl ⟨w.stops Gi Hi eg si.gx.gh si.gx.h, q Gi σi Hi (gx1.g.trans eg) si⟩⟩
def whileGo (t : SB) (b : SS) : Nat → Rho → Option Out
  | 0, _ => none
  | n + 1, ρ => (t ρ).bind fun k => if k = true then (b ρ).bind fun o => match o with
    | .nx ρ' => whileGo t b n ρ'
    | .ct ρ' => whileGo t b n ρ'
    | .bk ρ' => some (.nx ρ')
    | .rt d => some (.rt d)
    else some (.nx ρ)
def sWhile (n : Nat) (t : SB) (b : SS) : SS := fun ρ => whileGo t b n ρ
theorem s_while (n : Nat) {body : List Stmt} (hp : PassesOwn (model X.prog X.w) X.A X.env X.xe) (hc : DT X c t) (hb : DB X rm body f) : DS X rm (.While c body [] pos) (sWhile n t f) :=
  ⟨(ps_while hp hc.pt hb.pss).imp fun D σ H ⟨G0, H0, G, ρ, o, s, e, q⟩ => by
    refine ⟨fun m σi Hi => ∃ Gi ρi, Ex G Gi ∧ Sok X.K G0 H0 Gi ρi σi Hi ∧ whileGo t f m ρi = some o, ⟨n, G, ρ, Ex.refl _, s, e⟩, ?_⟩
    rintro m σi Hi ⟨Gi, ρi, eg, si, hr⟩
    cases m with
    | zero => cases hr
    | succ m =>
      obtain ⟨k, e1, hr⟩ := bind_some hr
      refine ⟨G0, H0, Gi, ρi, k, si, e1, fun G2 H2 gx2 => ?_⟩
      cases k with
      | false =>
        cases hr
        exact iteF (q G2 σi H2 (eg.trans gx2.g) (si.gx' gx2))
      | true =>
        refine iteT ?_
        obtain ⟨o1, e2, hr⟩ := bind_some (show _ = some o from hr)
        refine ⟨fun σ' H' => ∃ Gj ρj, Ex G Gj ∧ Sok X.K G0 H0 Gj ρj σ' H' ∧ whileGo t f m ρj = some o, fun σ' H' ⟨Gj, ρj, p⟩ => ⟨m, Nat.lt_succ_self _, Gj, ρj, p⟩, G0, H0, G2, ρi, o1, si.gx' gx2, e2, ?_⟩
        have eg2 := eg.trans gx2.g
        cases o1 with
        | nx ρ' => exact fun G' σ' H' e4 s4 => ⟨G', ρ', eg2.trans e4, s4, hr⟩
        | ct ρ' => exact fun G' σ' H' e4 s4 => ⟨G', ρ', eg2.trans e4, s4, hr⟩
        | bk ρ' =>
          cases hr
          exact fun G' σ' H' e4 s4 => q G' σ' H' (eg2.trans e4) s4
        | rt d =>
          cases hr
          exact q⟩
end

/-! ### defs -/
def slotsOf : List Md → List PyData → Rho
  | .bor :: ms, d :: ds => .bor d :: slotsOf ms ds
  | .scr :: ms, d :: ds => .scr d :: slotsOf ms ds
  | _ :: ms, d :: ds => .val d :: slotsOf ms ds
  | _, _ => []
def runF (n : Nat) (rm : Md) (ms : List Md) (f : SS) : List PyData → Option PyData := fun ds =>
  if ds.length = ms.length then (f (slotsOf ms ds ++ List.replicate (n - ds.length) .un)).bind fun o => match o, rm with
    | .rt d, _ => some d
    | .nx _, .val => some .none
    | _, _ => none
  else none
/-- a def's promise -/
def spD (K : PySem.W.Frag) (rm : Md) (ms : List Md) (F : List PyData → Option PyData) : Sp := fun vs H Q _ =>
  vs.length = ms.length ∧ ∃ G ds d, Ex G H ∧ RMs K H H G H ms ds vs ∧ F ds = some d ∧ ∀ G' H' v, Gx G H G' H' → RM K H H rm G' H' d v → Q v H'
def ArgMd (ms : List Md) : Prop := ∀ m ∈ ms, m = .val ∨ m = .bor ∨ m = .scr
theorem slots_ok {K : PySem.W.Frag} {H G : Hp} : ∀ {ms : List Md} {ds : List PyData} {vs : List V}, ArgMd ms → RMs K H H G H ms ds vs → (slotsOf ms ds).length = vs.length ∧
    ∀ (i : Nat) (s : Slot), (slotsOf ms ds)[i]? = some s → SlotOk K H H G H s ((vs.map some)[i]?.getD none) ∧ (∀ d, s ≠ .own d) ∧ ∀ d, s ≠ .pin d
  | _, _, _, _, .nil => ⟨rfl, fun i s h => by simp [slotsOf] at h⟩
  | m :: ms, d :: ds, v :: vs, am, .cons h t => by
    obtain ⟨l, q⟩ := slots_ok (fun m hm => am m (List.mem_cons_of_mem _ hm)) t
    have hm := am m List.mem_cons_self
    rcases hm with rfl | rfl | rfl
    · refine ⟨congrArg (· + 1) l, fun i s hs => ?_⟩
      cases i with
      | zero =>
        cases hs
        exact ⟨.val h, ⟨fun d e => (by cases e), fun d e => (by cases e)⟩⟩
      | succ i => exact q i s hs
    · refine ⟨congrArg (· + 1) l, fun i s hs => ?_⟩
      cases i with
      | zero =>
        cases hs
        exact ⟨.bor h, ⟨fun d e => (by cases e), fun d e => (by cases e)⟩⟩
      | succ i => exact q i s hs
    · refine ⟨congrArg (· + 1) l, fun i s hs => ?_⟩
      cases i with
      | zero =>
        cases hs
        exact ⟨.scr h, ⟨fun d e => (by cases e), fun d e => (by cases e)⟩⟩
      | succ i => exact q i s hs
theorem RMs.len {K : PySem.W.Frag} {H0 Hs G H : Hp} : ∀ {ms : List Md} {ds : List PyData} {vs : List V}, RMs K H0 Hs G H ms ds vs → ds.length = ms.length ∧ vs.length = ms.length
  | _, _, _, .nil => ⟨rfl, rfl⟩
  | _, _, _, .cons _ t => ⟨congrArg (· + 1) t.len.1, congrArg (· + 1) t.len.2⟩
theorem fn_ok {P : Program} {w : World} {K : PySem.W.Frag} {mg : Str → Option Value} {base : Heap} {x qual : Str} {st : Stmt} {f : Addr} {fd : FuncData} {N ps : List Str} {k n : Nat} {ms : List Md} {rm : Md} {b : SS} (F : Fun K x qual st f fd) (S : FnScope N ps (defScope st))
    (hm : ms.length = ps.length) (hn : N.length = n) (am : ArgMd ms)
    (body : ∀ (cdv : Value) (A : Around) (outer : List Env) (s : Shared) (H : Hp) (E : XK), Room k (A.deeper (PyProof.Rows.envOfC qual (defScope st) s.heap.objs.size f cdv)) → DB (cxOf CX0 P w K mg base N qual (defScope st) f cdv A outer s H E).nox rm (defBody st) b) :
    FnOk P w K mg base CX0 (k + 1) f fd ps (spD K rm ms (runF n rm ms b)) := by
  subst hn
  refine F.ok S (fun vs H Q E h => h.1.trans hm) fun cdv A outer s H vs Q E hr h => ?_
  obtain ⟨hl, G, ds, d, eg, ra, hF, q⟩ := h
  refine ⟨_, (body cdv A outer s H E hr).pss, ?_⟩
  obtain ⟨l1, so⟩ := slots_ok am ra
  have hpl : ps.length ≤ N.length := by have := congrArg List.length S.pre; rw [List.length_take] at this; omega
  obtain ⟨hl2, hF⟩ := ite_some hF
  obtain ⟨o, e1, e2⟩ := bind_some hF
  have dv : ds.length = vs.length := hl2.trans hl.symm
  refine ⟨⟨G, H, fun _ => none⟩, H, G, _, o, ⟨Gx.refl eg, ?_, fun i t ht => ?_, fun i j d1 d2 a hij h1 => ?_, fun i d h1 => ?_, Ex.refl _, fun i a vs h => (by cases h)⟩, e1, ?_⟩
  · unfold L2.start
    rw [List.length_append, List.length_append, List.length_map, List.length_replicate, List.length_replicate, l1, dv]
  · unfold L2.start
    by_cases hi : i < vs.length
    · rw [List.getElem?_append_left (by rw [l1]; exact hi)] at ht
      rw [List.getElem?_append_left (by simpa using hi)]
      exact (so i t ht).1
    · rw [List.getElem?_append_right (by rw [l1]; omega), List.getElem?_replicate] at ht
      split at ht
      · cases ht; exact .un
      · cases ht
  · exfalso
    by_cases hi : i < vs.length
    · rw [List.getElem?_append_left (by rw [l1]; exact hi)] at h1
      exact (so i _ h1).2.1 _ rfl
    · rw [List.getElem?_append_right (by rw [l1]; omega), List.getElem?_replicate] at h1
      split at h1 <;> cases h1
  · exfalso
    by_cases hi : i < vs.length
    · rw [List.getElem?_append_left (by rw [l1]; exact hi)] at h1
      exact (so i _ h1).2.2 _ rfl
    · rw [List.getElem?_append_right (by rw [l1]; omega), List.getElem?_replicate] at h1
      split at h1 <;> cases h1
  · cases o with
    | rt d' =>
      have e3 : d' = d := by cases rm <;> exact Option.some.inj e2
      subst e3
      exact fun G' H' v gx r => q G' H' v gx r
    | nx ρ' =>
      cases rm with
      | val =>
        have e3 : PyData.none = d := Option.some.inj e2
        subst e3
        exact fun G' σ' H' _ s' => q G' H' .non s'.gx .non
      | _ => cases e2
    | bk _ => cases rm <;> cases e2
    | ct _ => cases rm <;> cases e2
/-! ### calls -/
def eCall (F : List PyData → Option PyData) (r : SA) : SE := fun ρ => (r ρ).bind F
theorem RMs.call {K : PySem.W.Frag} {H0 Hs G H : Hp} : ∀ {ms : List Md} {ds : List PyData} {vs : List V}, ArgMd ms → RMs K H0 Hs G H ms ds vs → RMs K H H G H ms ds vs
  | _, _, _, _, .nil => .nil
  | m :: _, _, _, am, .cons h t => by
    refine .cons ?_ (RMs.call (fun m hm => am m (List.mem_cons_of_mem _ hm)) t)
    rcases am m List.mem_cons_self with rfl | rfl | rfl
    · exact h
    · exact h
    · exact h
section
variable {X : Cx} {rm : Md} {ms : List Md} {e : Expr} {es : List Expr} {r : SA} {pos p : Pos} {x : Str} {k : Nat} {f : Addr} {fd : FuncData} {ps : List Str} {Fn : List PyData → Option PyData}
theorem call_of {K : PySem.W.Frag} (hr : rm = .val ∨ rm = .new) (am : ArgMd ms) : ∀ σ H Q, tE K rm (eCall Fn r) σ H Q → tCall (spD K rm ms Fn) [] E0 (tA K ms r) σ H Q := fun σ H Q ⟨G0, H0, G, ρ, d, s, ed, q⟩ => by
  obtain ⟨ds, e1, e2⟩ := bind_some ed
  refine ⟨G0, H0, G, ρ, ds, s, e1, fun G' H' vs gx ra => ?_⟩
  show spD K rm ms Fn (vs ++ []) H' Q E0
  rw [List.append_nil]
  refine ⟨ra.len.2, G', ds, d, gx.gh, ra.call am, e2, fun G2 H2 v gx2 r2 => q G2 H2 v (gx.trans gx2) ?_⟩
  rcases hr with rfl | rfl
  · exact r2
  · exact RM.start gx.h r2
theorem d_call (F : FnOk X.prog X.w X.K X.mg X.base CX0 k f fd ps (spD X.K rm ms Fn)) (hr : Room k X.A) (hg : Gl X x) (hm : X.mg x = some (.ref f)) (hk : PySem.W.keepIn X.K (.ref f) = true) (hb : Binds X.K fd ps [])
    (ha : DA X ms (e :: es) r) (hrm : rm = .val ∨ rm = .new := by first | exact Or.inl rfl | exact Or.inr rfl) (am : ArgMd ms) (hdb : (x == ("__debug__" : Str)) = false := by decide) (he : starEach (e :: es) X.env = (false, eval e X.env) :: starEach es X.env := by rfl) (hpl : (backTo pos (starEach es X.env)).any (·.1) = false := by rfl) :
    DX X rm (.Call (.Name x p) (e :: es) [] pos) (eCall Fn r) :=
  ⟨(pe_call F hr hg hm hk hb .nil pass0 ha.pa hdb he hpl).imp (call_of hrm am)⟩
theorem d_call0 (F : FnOk X.prog X.w X.K X.mg X.base CX0 k f fd ps (spD X.K rm [] Fn)) (hr : Room k X.A) (hg : Gl X x) (hm : X.mg x = some (.ref f)) (hk : PySem.W.keepIn X.K (.ref f) = true) (hb : Binds X.K fd ps [])
    (hrm : rm = .val ∨ rm = .new := by first | exact Or.inl rfl | exact Or.inr rfl) (hdb : (x == ("__debug__" : Str)) = false := by decide) :
    DX X rm (.Call (.Name x p) [] [] pos) (eCall Fn aNil) :=
  ⟨(pe_call0 F hr hg hm hk hb .nil pass0 hdb).imp fun σ H Q h => by
    obtain ⟨G0, H0, G, ρ, ds, s, e1, q⟩ := call_of hrm (fun m hm => absurd hm List.not_mem_nil) σ H Q h
    cases e1
    exact q G H [] (Gx.refl s.gx.gh) .nil⟩
end
/-! ### a def that stands in the module, in one place -/
def Fn1 (P : Program) (w : World) (K : PySem.W.Frag) (mg : Str → Option Value) (base : Heap) (x : Str) (ps : List Str) (k : Nat) (rm : Md) (ms : List Md) (F : List PyData → Option PyData) : Prop :=
  ∃ (f : Addr) (fd : FuncData), FnOk P w K mg base CX0 k f fd ps (spD K rm ms F) ∧ mg x = some (.ref f) ∧ PySem.W.keepIn K (.ref f) = true ∧ Binds K fd ps []
section
variable {X : Cx} {rm : Md} {ms : List Md} {e : Expr} {es : List Expr} {r : SA} {pos p : Pos} {x : Str} {k : Nat} {ps : List Str} {Fn : List PyData → Option PyData}
theorem d_fn (F : Fn1 X.prog X.w X.K X.mg X.base x ps k rm ms Fn) (hr : Room k X.A) (ha : DA X ms (e :: es) r) (am : ArgMd ms) (hrm : rm = .val ∨ rm = .new := by first | exact Or.inl rfl | exact Or.inr rfl) (hg : Gl X x := by rfl) (hdb : (x == ("__debug__" : Str)) = false := by decide) (he : starEach (e :: es) X.env = (false, eval e X.env) :: starEach es X.env := by rfl) (hpl : (backTo pos (starEach es X.env)).any (·.1) = false := by rfl) :
    DX X rm (.Call (.Name x p) (e :: es) [] pos) (eCall Fn r) := by
  obtain ⟨f, fd, F, hm, hk, hb⟩ := F
  exact d_call F hr hg hm hk hb ha hrm am hdb he hpl
theorem d_fn0 (F : Fn1 X.prog X.w X.K X.mg X.base x ps k rm [] Fn) (hr : Room k X.A) (hrm : rm = .val ∨ rm = .new := by first | exact Or.inl rfl | exact Or.inr rfl) (hg : Gl X x := by rfl) (hdb : (x == ("__debug__" : Str)) = false := by decide) :
    DX X rm (.Call (.Name x p) [] [] pos) (eCall Fn aNil) := by
  obtain ⟨f, fd, F, hm, hk, hb⟩ := F
  exact d_call0 F hr hg hm hk hb hrm hdb
end
theorem am_nil : ArgMd [] := fun m hm => absurd hm List.not_mem_nil
theorem am_val {ms : List Md} (h : ArgMd ms) : ArgMd (.val :: ms) := fun m hm => (List.mem_cons.mp hm).elim (fun e => .inl e) (h m)
theorem am_bor {ms : List Md} (h : ArgMd ms) : ArgMd (.bor :: ms) := fun m hm => (List.mem_cons.mp hm).elim (fun e => .inr (.inl e)) (h m)
theorem am_scr {ms : List Md} (h : ArgMd ms) : ArgMd (.scr :: ms) := fun m hm => (List.mem_cons.mp hm).elim (fun e => .inr (.inr e)) (h m)
theorem v_nil : ∀ m ∈ ([] : List Md), m = .val := fun m hm => absurd hm List.not_mem_nil
theorem v_cons {ms : List Md} (h : ∀ m ∈ ms, m = .val) : ∀ m ∈ Md.val :: ms, m = .val := fun m hm => (List.mem_cons.mp hm).elim id (h m)
theorem b_nil' : ∀ m ∈ ([] : List Md), m = .bor := fun m hm => absurd hm List.not_mem_nil
theorem b_cons' {ms : List Md} (h : ∀ m ∈ ms, m = .bor) : ∀ m ∈ Md.bor :: ms, m = .bor := fun m hm => (List.mem_cons.mp hm).elim id (h m)
theorem bor1 : ∀ m ∈ [Md.bor], m = .bor := b_cons' b_nil'
theorem bor2 : ∀ m ∈ [Md.bor, Md.bor], m = .bor := b_cons' bor1
/-- the law's promise from its function -/
theorem law_sp {K : PySem.W.Frag} {H : Hp} {a : Addr} {ns : List Int} {F : List PyData → Option PyData} (hS : SqL K H a (ns.map V.int)) (h : F [.list (ns.map .int)] = some (.bool true)) :
    spD K .val [.scr] F [.ref a] H (fun v _ => v = .bl true) fun _ _ _ => False := by
  have e0 : Ex (fun _ => none) H := fun b o z => by
    have z' : (none : Option HO) = some o := z
    cases z'
  refine ⟨rfl, fun _ => none, [.list (ns.map .int)], .bool true, e0, RMs.cons (m := .scr) ⟨a, ns, rfl, rfl, hS⟩ RMs.nil, h, fun G' H' v _ r => ?_⟩
  cases (show Rep K G' (.bool true) v from r)
  rfl
end DV

namespace DV
open PySem L2

/-! ### data read from values -/
section
variable {K : PySem.W.Frag} {G H : Hp}
mutual
theorem Rep.dp (e : Ex G H) : ∀ {d : PyData} {v : V}, d.canLay0 = true → Rep K G d v → Dp K H v d
  | _, _, _, .non => .non
  | _, _, _, .bl b => .bl b
  | _, _, _, .int i => .int i
  | _, _, _, .str x => .str x
  | _, _, c, .lst h r => .lst (.inl (e.rd h)) (RepA.dp e (by simpa [PyData.canLay0] using c) r)
  | _, _, c, .tup h r => .tup (e.sqt (sqtOf h)) (RepA.dp e (by simpa [PyData.canLay0] using c) r)
  | _, _, c, .dK h k r => by simp [PyData.canLay0] at c
  | _, _, c, .dT h k r => by simp [PyData.canLay0] at c
theorem RepA.dp (e : Ex G H) : ∀ {ds : List PyData} {vs : List V}, PyData.canLayAll0 ds = true → RepA K G ds vs → DpAll K H vs ds
  | _, _, _, .nil => .nil
  | d :: ds, _, c, .cons h r => by
    have c' : d.canLay0 = true ∧ PyData.canLayAll0 ds = true := by simpa [PyData.canLayAll0] using c
    exact .cons (Rep.dp e c'.1 h) (RepA.dp e c'.2 r)
end
theorem RepB.dp (e : Ex G H) {d : PyData} {v : V} (c : d.canLay0 = true) (h : RepB K G H d v) : Dp K H v d := by
  cases h with
  | val h => exact h.dp e c
  | lst h r => exact .lst (SqL.of h) (r.dp e (by simpa [PyData.canLay0] using c))
  | dK h k r => simp [PyData.canLay0] at c
  | dT h k r => simp [PyData.canLay0] at c
/-- a scalar's result -/
theorem scalar {m : Md} (hm : m = .val ∨ m = .bor) {d : PyData} {v : V} (r : Rep K G d v) : ∀ H0, RM K H0 H m G H d v := fun H0 => by
  rcases hm with rfl | rfl
  · exact r
  · exact .val r
end

/-! ### numbers -/
section
variable {K : PySem.W.Frag} {X : Cx}
def int2 (g : Int → Int → Option PyData) : PyData → PyData → Option PyData
  | .int i, .int j => g i j
  | _, _ => none
theorem int2_some {g : Int → Int → Option PyData} {d1 d2 d : PyData} (h : int2 g d1 d2 = some d) : ∃ i j, d1 = .int i ∧ d2 = .int j ∧ g i j = some d := by
  unfold int2 at h
  split at h
  · exact ⟨_, _, rfl, rfl, h⟩
  · cases h
/-- two ints under a condition give an int -/
def intIf (C : Int → Int → Prop) [∀ i j, Decidable (C i j)] (g : Int → Int → Int) : PyData → PyData → Option PyData := int2 fun i j => if C i j then some (.int (g i j)) else none
theorem opf_intIf (C : Int → Int → Prop) [∀ i j, Decidable (C i j)] (g : Int → Int → Int) : OpF K .val (rI C fun i j => .int (g i j)) (intIf C g) := fun G H d1 d2 d x y Q e r1 r2 h q => by
  obtain ⟨i, j, rfl, rfl, h⟩ := int2_some h
  obtain ⟨c, rfl⟩ := if_some h
  cases r1.int
  cases r2.int
  exact ⟨i, j, rfl, rfl, c, q G H _ (Gx.refl e) fun _ => .int _⟩
def oSub : PyData → PyData → Option PyData := int2 fun i j => some (.int (i - j))
theorem opf_sub : OpF K .val (rI0 fun i j => .int (i - j)) oSub := fun G H d1 d2 d x y Q e r1 r2 h q => by
  obtain ⟨i, j, rfl, rfl, h⟩ := int2_some h
  cases h
  cases r1.int
  cases r2.int
  exact ⟨i, j, rfl, rfl, q G H _ (Gx.refl e) fun _ => .int _⟩
instance (i j : Int) : Decidable (CDivW i j) := by unfold CDivW; exact inferInstance
instance (i j : Int) : Decidable (CPow i j) := by unfold CPow; exact inferInstance
instance (i j : Int) : Decidable (CMul i j) := by unfold CMul; exact inferInstance
instance (j : Int) : Decidable (0 < j ∧ j < 18446744073709551616) := inferInstance
def oFdiv := intIf (fun _ j => 0 < j ∧ j < 18446744073709551616) fun i j => i / j
theorem opf_fdiv : OpF K .val (rI CDivW fun i j => .int (i / j)) oFdiv := fun G H d1 d2 d x y Q e r1 r2 h q => by
  obtain ⟨i, j, rfl, rfl, h⟩ := int2_some h
  obtain ⟨c, rfl⟩ := if_some h
  cases r1.int
  cases r2.int
  exact ⟨i, j, rfl, rfl, wide_div (b := 64) c.1 (by omega) (by decide) (by decide), q G H _ (Gx.refl e) fun _ => .int _⟩
def oMod := intIf (fun _ j => 0 < j) fun i j => i % j
def oPow := intIf CPow fun i j => i ^ j.toNat
def oNeg : PyData → Option PyData
  | .int i => some (.int (-i))
  | _ => none
theorem unf_neg : UnF K .val (rU fun i => .int (-i)) oNeg := fun G H d1 d x Q e r1 h q => by
  unfold oNeg at h
  split at h
  · cases h
    cases r1.int
    exact ⟨_, rfl, q G H _ (Gx.refl e) fun _ => .int _⟩
  · cases h
def cmpI (p : Int → Int → Bool) : PyData → PyData → Option PyData := int2 fun i j => some (.bool (p i j))
theorem opf_cmpI (p : Int → Int → Bool) : OpF K .val (rI0 fun i j => .bl (p i j)) (cmpI p) := fun G H d1 d2 d x y Q e r1 r2 h q => by
  obtain ⟨i, j, rfl, rfl, h⟩ := int2_some h
  cases h
  cases r1.int
  cases r2.int
  exact ⟨i, j, rfl, rfl, q G H _ (Gx.refl e) fun _ => .bl _⟩
def oLt := cmpI fun i j => decide (i < j)
def oLe := cmpI fun i j => decide (i ≤ j)
def oGt := cmpI fun i j => decide (j < i)
def oGe := cmpI fun i j => decide (j ≤ i)

/-! ### +, * on any kind -/
def rOr (r r' : R2) : R2 := fun x y H Q => r x y H Q ∨ r' x y H Q
theorem OpR.or {f : Value → Value → Sem Value} {r r' : R2} (h : OpR X f r) (h' : OpR X f r') : OpR X f (rOr r r') := by
  intro pins s σ H x y v u Q I rx ry q
  rcases q with q | q
  · exact h pins s σ H x y v u Q I rx ry q
  · exact h' pins s σ H x y v u Q I rx ry q
def oAdd : PyData → PyData → Option PyData
  | .int i, .int j => some (.int (i + j))
  | .str x, .str y => if x.length + y.length ≤ sizeLine then some (.str (x ++ y)) else none
  | .list xs, .list ys => if xs.length + ys.length ≤ sizeLine then some (.list (xs ++ ys)) else none
  | _, _ => none
def oCat : PyData → PyData → Option PyData
  | .list xs, .list ys => if xs.length + ys.length ≤ sizeLine then some (.list (xs ++ ys)) else none
  | _, _ => none
def rLstCat : R2 := fun x y H Q => ∃ l b xs zs, x = .ref l ∧ y = .ref b ∧ Rd H l (.lst xs) ∧ Rd H b (.lst zs) ∧ xs.length + zs.length ≤ sizeLine ∧ ∀ p, H p = none → Q (.ref p) (upd H p (.lst (xs ++ zs)))
theorem rd_lst {pins : List (Addr × Obj)} {σ : L2.St} {H : Hp} {s : Shared} {l : Addr} {xs : List V} (I : Inv X pins σ H s) (h : Rd H l (.lst xs)) :
    xs.length ≤ sizeLine ∧ ∃ (its : List Value) (n : Nat), Vals xs its ∧ xs.length = its.length ∧ s.heap.get? l = some { cls := .type "list", data := .seq its.toArray n } := by
  obtain ⟨z, its, n, r, e⟩ := h.ok I.hok
  exact ⟨z, its, n, r, r.length, e⟩
theorem op_lstCat : OpR X (binaryOp .Add) rLstCat := by
  intro pins s σ H x y v u Q I rx ry h
  obtain ⟨l, b, xs, zs, rfl, rfl, hH, hB, hz, q⟩ := h
  cases rx
  cases ry
  obtain ⟨z, its, n, r, hl, e⟩ := rd_lst I hH
  obtain ⟨z2, its2, n2, r2, hl2, e2⟩ := rd_lst I hB
  refine PySem.P.add_list e e2 ?_ (by rw [List.size_toArray, List.size_toArray]; omega)
  have ea : its.toArray ++ its2.toArray = (its ++ its2).toArray := by simp
  rw [ea]
  exact ⟨.ref _, _, I.lnew (t' := s.toks) (r.append r2) (by rw [List.length_append]; omega), rfl, q _ I.fresh⟩
theorem RepB.rd {G H : Hp} (e : Ex G H) {ds : List PyData} {v : V} (h : RepB K G H (.list ds) v) : ∃ a vs, v = .ref a ∧ Rd H a (.lst vs) ∧ RepA K G ds vs := by
  obtain ⟨a, vs, h1, st, r⟩ := h.seq
  exact ⟨a, vs, h1, st H e (Ex.refl _), r⟩
/-- a new list as a value: frozen, or own -/
theorem newList {m : Md} (hm : m = .val ∨ m = .new) {G H : Hp} (e : Ex G H) {p : Addr} (np : H p = none) {ds : List PyData} {vs : List V} (r : RepA K G ds vs) {Q : VK}
    (q : ∀ G' H' v, Gx G H G' H' → (∀ H0, RM K H0 H m G' H' (.list ds) v) → Q v H') : Q (.ref p) (upd H p (.lst vs)) := by
  rcases hm with rfl | rfl
  · exact q _ _ _ (Gx.new e np) fun _ => .lst (.inl upd_same) (r.mono (Ex.new (e.back np)))
  · exact q _ _ _ (Gx.mine e np) fun _ => ⟨p, rfl, np, e.back np, .lst upd_same r⟩
theorem opf_cat {m : Md} (hm : m = .val ∨ m = .new) : OpF K m rLstCat oCat := fun G H d1 d2 d x y Q e r1 r2 h q => by
  unfold oCat at h
  split at h
  · obtain ⟨hl, rfl⟩ := if_some h
    obtain ⟨a, vs, rfl, h1, ra⟩ := r1.rd e
    obtain ⟨b, us, rfl, h2, rb⟩ := r2.rd e
    exact ⟨a, b, vs, us, rfl, rfl, h1, h2, by rw [← ra.len, ← rb.len]; exact hl, fun p np => newList hm e np (ra.app rb) q⟩
  · cases h
def rAddAll : R2 := rOr (rI0 fun i j => .int (i + j)) (rOr (fun x y H Q => ∃ i j, x = .str i ∧ y = .str j ∧ i.length + j.length ≤ sizeLine ∧ Q (.str (i ++ j)) H) rLstCat)
theorem op_addAll : OpR X (binaryOp .Add) rAddAll := OpR.or op_add (OpR.or op_add_str op_lstCat)
theorem opf_addAll : OpF K .val rAddAll oAdd := fun G H d1 d2 d x y Q e r1 r2 h q => by
  unfold oAdd at h
  split at h
  · cases h
    cases r1.int
    cases r2.int
    exact .inl ⟨_, _, rfl, rfl, q G H _ (Gx.refl e) fun _ => .int _⟩
  · obtain ⟨hl, rfl⟩ := if_some h
    cases r1.str
    cases r2.str
    exact .inr (.inl ⟨_, _, rfl, rfl, hl, q G H _ (Gx.refl e) fun _ => .str _⟩)
  · exact .inr (.inr (opf_cat (.inl rfl) G H _ _ d x y Q e r1 r2 h q))
  · cases h
def repS (x : Str) (n : Nat) : Str := ⟨(List.replicate n x.cps.toList).flatten.toArray⟩
def oMul : PyData → PyData → Option PyData
  | .int i, .int j => if CMul i j then some (.int (i * j)) else none
  | .str x, .int n => if 0 ≤ n ∧ n ≤ 1000 ∧ x.length ≤ 10000 then some (.str (repS x n.toNat)) else none
  | .list xs, .int n => if 0 ≤ n ∧ n ≤ 1000 ∧ xs.length ≤ 10000 then some (.list (List.replicate n.toNat xs).flatten) else none
  | _, _ => none
theorem mulOk (x : Str) (n : Int) (h : 0 ≤ n ∧ n ≤ 1000 ∧ x.length ≤ 10000) : MulOk x n := by
  obtain ⟨h0, h1, h2⟩ := h
  refine ⟨?_, fun hn _ => ?_, fun hn _ => ?_⟩
  · rw [Bool.or_eq_false_iff]; exact ⟨decide_eq_false (by omega), decide_eq_false (by omega)⟩
  · have : (10000 : Int) ≤ (2 ^ 63 - 1) / n := Int.le_ediv_of_mul_le (by omega) (by omega)
    omega
  · unfold Builtin.Str.tooLong
    have : x.length * n.toNat ≤ 10000 * 1000 := Nat.mul_le_mul h2 (by omega)
    rw [sizeLine_eq]
    exact decide_eq_false (by omega)
theorem foldl_cps (l : List Nat) : ∀ (k : Nat) (acc : List Nat), List.foldl (fun x1 x2 => x1 ++ x2) acc.toArray (List.replicate k l.toArray) = (acc ++ (List.replicate k l).flatten).toArray
  | 0, acc => by simp
  | k + 1, acc => by
    have e : acc.toArray ++ l.toArray = (acc ++ l).toArray := by simp
    have e2 : (acc ++ l) ++ (List.replicate k l).flatten = acc ++ (List.replicate (k + 1) l).flatten := by
      rw [List.replicate_succ, List.flatten_cons, List.append_assoc]
    rw [← e2, ← foldl_cps l k (acc ++ l), ← e, List.replicate_succ, List.foldl_cons]
theorem mul_repS (x : Str) (n : Int) (h : 0 ≤ n) : Txt.mul x n = repS x n.toNat := by
  unfold Txt.mul repS
  by_cases h1 : n < 1
  · have : n = 0 := by omega
    subst this
    rw [if_pos h1]; rfl
  · rw [if_neg h1]
    by_cases h2 : (n == 1 || x.length == 0) = true
    · rw [if_pos h2]
      rw [Bool.or_eq_true] at h2
      rcases h2 with h2 | h2
      · have : n = 1 := eq_of_beq h2
        subst this
        obtain ⟨c⟩ := x
        simp
      · have h3 : x.cps.size = 0 := eq_of_beq h2
        obtain ⟨c⟩ := x
        have : c = #[] := by simpa using h3
        subst this
        simp
    · rw [if_neg h2]
      have := foldl_cps x.cps.toList n.toNat []
      simp only [Array.toArray_toList, List.nil_append] at this
      rw [← this]
def rMulS : R2 := fun x y H Q => ∃ z n, x = .str z ∧ y = .int n ∧ (0 ≤ n ∧ n ≤ 1000 ∧ z.length ≤ 10000) ∧ Q (.str (repS z n.toNat)) H
theorem op_mulS : OpR X (binaryOp .Mult) rMulS := by
  intro pins s σ H x y v u Q I rx ry h
  obtain ⟨z, n, rfl, rfl, hz, q⟩ := h
  obtain ⟨t, rfl⟩ := rx
  obtain ⟨t', rfl⟩ := ry
  refine SB.mul (mulOk z n hz) fun t2 k => ?_
  rw [mul_repS z n hz.1]
  exact ⟨.str _, H, I.tok _, ⟨_, rfl⟩, q⟩
def rMulL : R2 := fun x y H Q => ∃ l k xs, x = .ref l ∧ y = .int k ∧ H l = some (.lst xs) ∧ -(2 ^ 63) ≤ k ∧ k < 2 ^ 63 ∧ xs.length * k.toNat ≤ sizeLine ∧ ∀ p, H p = none → Q (.ref p) (upd H p (.lst (List.replicate k.toNat xs).flatten))
def rMulAll : R2 := rOr (rI CMul fun i j => .int (i * j)) rMulS
def oMulS : PyData → PyData → Option PyData
  | .int i, .int j => if CMul i j then some (.int (i * j)) else none
  | .str x, .int n => if 0 ≤ n ∧ n ≤ 1000 ∧ x.length ≤ 10000 then some (.str (repS x n.toNat)) else none
  | _, _ => none
theorem op_mulAll : OpR X (binaryOp .Mult) rMulAll := OpR.or op_mul op_mulS
theorem opf_mulAll : OpF K .val rMulAll oMulS := fun G H d1 d2 d x y Q e r1 r2 h q => by
  unfold oMulS at h
  split at h
  · obtain ⟨c, rfl⟩ := if_some h
    cases r1.int
    cases r2.int
    exact .inl ⟨_, _, rfl, rfl, c, q G H _ (Gx.refl e) fun _ => .int _⟩
  · obtain ⟨c, rfl⟩ := if_some h
    cases r1.str
    cases r2.int
    exact .inr ⟨_, _, rfl, rfl, c, q G H _ (Gx.refl e) fun _ => .str _⟩
  · cases h

/-! ### ==, in, is -/
def oEq (a b : PyData) : Option PyData := if SeqAt.shaped a = true ∧ SeqAt.shaped b = true then some (.bool (PyData.eqv a b)) else none
def oNe (a b : PyData) : Option PyData := if SeqAt.shaped a = true ∧ SeqAt.shaped b = true then some (.bool (!PyData.eqv a b)) else none
theorem opf_eq : OpF K .val (rEqD K) oEq := fun G H d1 d2 d x y Q e r1 r2 h q => by
  obtain ⟨⟨c1, c2⟩, rfl⟩ := if_some h
  exact ⟨d1, d2, r1.dp e (SeqAt.canLay_of_shaped c1), r2.dp e (SeqAt.canLay_of_shaped c2), c1, c2, q G H _ (Gx.refl e) fun _ => .bl _⟩
theorem opf_ne : OpF K .val (rNeD K) oNe := fun G H d1 d2 d x y Q e r1 r2 h q => by
  obtain ⟨⟨c1, c2⟩, rfl⟩ := if_some h
  exact ⟨d1, d2, r1.dp e (SeqAt.canLay_of_shaped c1), r2.dp e (SeqAt.canLay_of_shaped c2), c1, c2, q G H _ (Gx.refl e) fun _ => .bl _⟩
def isNon : PyData → Bool
  | .none => true
  | _ => false
def oIsN (a b : PyData) : Option PyData := match b with
  | .none => some (.bool (isNon a))
  | _ => none
def oNotN (a b : PyData) : Option PyData := match b with
  | .none => some (.bool (!isNon a))
  | _ => none
theorem isN_dec {G H : Hp} {d : PyData} {v : V} (r : RepB K G H d v) : decide (v = .non) = isNon d := by
  cases r with
  | val r => cases r <;> rfl
  | lst _ _ => rfl
  | dK _ _ _ => rfl
  | dT _ _ _ => rfl
theorem opf_isN : OpF K .val (fun x y H Q => y = .non ∧ Q (.bl (decide (x = .non))) H) oIsN := fun G H d1 d2 d x y Q e r1 r2 h q => by
  unfold oIsN at h
  split at h
  · cases h
    cases r2.non
    exact ⟨rfl, q G H _ (Gx.refl e) fun _ => by rw [isN_dec r1]; exact .bl _⟩
  · cases h
theorem opf_notN : OpF K .val (fun x y H Q => y = .non ∧ Q (.bl (!decide (x = .non))) H) oNotN := fun G H d1 d2 d x y Q e r1 r2 h q => by
  unfold oNotN at h
  split at h
  · cases h
    cases r2.non
    exact ⟨rfl, q G H _ (Gx.refl e) fun _ => by rw [isN_dec r1]; exact .bl _⟩
  · cases h
def oIsB (a b : PyData) : Option PyData := match a, b with
  | .bool x, .bool y => some (.bool (decide (x = y)))
  | _, _ => none
def oNotB (a b : PyData) : Option PyData := match a, b with
  | .bool x, .bool y => some (.bool (!decide (x = y)))
  | _, _ => none
theorem opf_isB : OpF K .val rIsB oIsB := fun G H d1 d2 d x y Q e r1 r2 h q => by
  unfold oIsB at h
  split at h
  · cases h
    cases r1.bl
    cases r2.bl
    exact ⟨_, _, rfl, rfl, q G H _ (Gx.refl e) fun _ => .bl _⟩
  · cases h
theorem opf_notB : OpF K .val rNotB oNotB := fun G H d1 d2 d x y Q e r1 r2 h q => by
  unfold oNotB at h
  split at h
  · cases h
    cases r1.bl
    cases r2.bl
    exact ⟨_, _, rfl, rfl, q G H _ (Gx.refl e) fun _ => .bl _⟩
  · cases h
/-- a sign in a text -/
def oInS (a b : PyData) : Option PyData := match a, b with
  | .str x, .str y => if x.cps.size = 1 then some (.bool (decide (x.cps.getD 0 0 ∈ y.cps.toList))) else none
  | _, _ => none
def oNotInS (a b : PyData) : Option PyData := match a, b with
  | .str x, .str y => if x.cps.size = 1 then some (.bool (!decide (x.cps.getD 0 0 ∈ y.cps.toList))) else none
  | _, _ => none
theorem one_sign {x : Str} (h : x.cps.size = 1) : x = ⟨#[x.cps.getD 0 0]⟩ := by
  obtain ⟨⟨l⟩⟩ := x
  match l, h with
  | [c], _ => rfl
theorem opf_inS : OpF K .val (fun x y H Q => ∃ (c : Nat) (z : Str), x = .str ⟨#[c]⟩ ∧ y = .str z ∧ Q (.bl (decide (c ∈ z.cps.toList))) H) oInS := fun G H d1 d2 d x y Q e r1 r2 h q => by
  unfold oInS at h
  split at h
  · obtain ⟨c, rfl⟩ := if_some h
    cases r1.str
    cases r2.str
    exact ⟨_, _, congrArg _ (one_sign c), rfl, q G H _ (Gx.refl e) fun _ => .bl _⟩
  · cases h
theorem opf_notInS : OpF K .val (fun x y H Q => ∃ (c : Nat) (z : Str), x = .str ⟨#[c]⟩ ∧ y = .str z ∧ Q (.bl (!decide (c ∈ z.cps.toList))) H) oNotInS := fun G H d1 d2 d x y Q e r1 r2 h q => by
  unfold oNotInS at h
  split at h
  · obtain ⟨c, rfl⟩ := if_some h
    cases r1.str
    cases r2.str
    exact ⟨_, _, congrArg _ (one_sign c), rfl, q G H _ (Gx.refl e) fun _ => .bl _⟩
  · cases h
end
end DV

namespace DV
open PySem L2

/-! ### subscripts and slices -/
section
variable {K : PySem.W.Frag} {X : Cx} {a b e : Expr} {f g : SE} {m : Md} {pos p2 : Pos} {lo hi : Option Expr}
theorem RepA.atI {G : Hp} {ds : List PyData} {vs : List V} {i : Int} {d : PyData} (r : RepA K G ds vs) (h : L2.atI ds i = some d) : ∃ v, L2.atI vs i = some v ∧ Rep K G d v := by
  unfold L2.atI at h ⊢
  rw [r.len] at h
  cases e : ixN vs.length i with
  | none => rw [e] at h; cases h
  | some j => rw [e] at h; exact r.get h
def oIx : PyData → PyData → Option PyData
  | .list ds, .int i => atI ds i
  | .tuple ds, .int i => atI ds i
  | .str z, .int i => if z.length ≤ sizeLine then (atI z.cps.toList i).map fun c => .str ⟨#[c]⟩ else none
  | _, _ => none
theorem oIx_inv : ∀ {d1 d2 d : PyData}, oIx d1 d2 = some d → ∃ i, d2 = .int i ∧ ((∃ l, d1 = .list l ∧ atI l i = some d) ∨ (∃ l, d1 = .tuple l ∧ atI l i = some d) ∨ ∃ z c, d1 = .str z ∧ z.length ≤ sizeLine ∧ atI z.cps.toList i = some c ∧ d = .str ⟨#[c]⟩)
  | .list l, .int i, d, h => ⟨i, rfl, .inl ⟨l, rfl, h⟩⟩
  | .tuple l, .int i, d, h => ⟨i, rfl, .inr (.inl ⟨l, rfl, h⟩)⟩
  | .str z, .int i, d, h => by
    obtain ⟨hl, h⟩ := ite_some (show (if z.length ≤ sizeLine then (atI z.cps.toList i).map fun c => PyData.str ⟨#[c]⟩ else none) = some d from h)
    cases h2 : atI z.cps.toList i with
    | none => rw [h2] at h; cases h
    | some c =>
      rw [h2] at h
      cases h
      exact ⟨i, rfl, .inr (.inr ⟨z, c, rfl, hl, h2, rfl⟩)⟩
theorem opf_ix : OpF K .val (rIx K) oIx := fun G H d1 d2 d x y Q e r1 r2 h q => by
  obtain ⟨i, rfl, ⟨l, rfl, h⟩ | ⟨l, rfl, h⟩ | ⟨z, c, rfl, hl, h7, rfl⟩⟩ := oIx_inv h
  · cases r2.int
    obtain ⟨a, vs, rfl, h1, ra⟩ := r1.rd e
    obtain ⟨v, h2, h3⟩ := ra.atI h
    exact .inl ⟨a, vs, _, v, rfl, rfl, .inl h1, h2, q G H _ (Gx.refl e) fun _ => h3⟩
  · cases r2.int
    obtain ⟨a, vs, rfl, h1, ra⟩ := r1.seqT
    obtain ⟨v, h2, h3⟩ := ra.atI h
    exact .inr (.inl ⟨a, vs, _, v, rfl, rfl, h1 H e, h2, q G H _ (Gx.refl e) fun _ => h3⟩)
  · cases r2.int
    cases r1.str
    exact .inr (.inr ⟨_, _, c, rfl, rfl, hl, h7, q G H _ (Gx.refl e) fun _ => .str _⟩)
theorem d_ix (ha : DX X .bor a f) (hb : DX X .bor b g) (hs : PlainIx b := by intro _ _; rfl) : DX X .val (.Subscript a b pos) (eOp oIx f g) :=
  ⟨(pe_ix ix_seq ha.pe hb.pe hs).imp fun _ _ _ q => op_two opf_ix q⟩
/-- an item of the script -/
theorem d_ixS (ha : DX X .scr a f) (hb : DX X .val b g) (hs : PlainIx b := by intro _ _; rfl) : DX X .val (.Subscript a b pos) (eOp oIx f g) :=
  ⟨(pe_ix ix_list ha.pe hb.pe hs).imp fun σ H Q ⟨G0, H0, G, ρ, d, s, ed, q⟩ => by
    obtain ⟨d1, e1, ed⟩ := bind_some ed
    obtain ⟨d2, e2, ed⟩ := bind_some ed
    refine ⟨G0, H0, G, ρ, d1, s, e1, fun G1 H1 x gx1 r1 => ⟨G0, H0, G1, ρ, d2, s.gx' gx1, e2, fun G2 H2 y gx2 r2 => ?_⟩⟩
    obtain ⟨p, ns, rfl, rfl, hq⟩ := RepS.mono gx2.h r1
    obtain ⟨i, rfl, ⟨l, hl, h⟩ | ⟨l, hl, h⟩ | ⟨z, c, hl, _⟩⟩ := oIx_inv ed
    · cases hl
      cases (show Rep X.K G2 (.int i) y from r2)
      obtain ⟨v, h2, h3⟩ := RepA.atI (RepA.ints (K := X.K) (G := G2) ns) h
      exact ⟨p, _, _, v, rfl, rfl, hq, h2, q G2 H2 v (gx1.trans gx2) h3⟩
    · cases hl
    · cases hl⟩
/-- parts of slices -/
abbrev SO := Rho → Option (Option Int)
def tO (K : PySem.W.Frag) (f : SO) : TO := fun σ H Q => ∃ G0 H0 G ρ o, Sok K G0 H0 G ρ σ H ∧ f ρ = some o ∧ ∀ G' H', Gx G H G' H' → Q o H'
structure DO (X : Cx) (e : Option Expr) (f : SO) : Prop where
  po : PO X e (tO X.K f)
theorem _root_.L2.PO.imp {e : Option Expr} {t t' : TO} (h : PO X e t) (w : ∀ σ H Q, t' σ H Q → t σ H Q) : PO X e t' := ⟨fun pins s σ H Q I q => h.run pins s σ H Q I (w σ H Q q)⟩
def oNo : SO := fun _ => some none
def asI : PyData → Option (Option Int)
  | .int i => some (some i)
  | _ => none
def oSo (f : SE) : SO := fun ρ => (f ρ).bind asI
theorem o_no : DO X none oNo := ⟨po_none.imp fun σ H Q ⟨G0, H0, G, ρ, o, s, ed, q⟩ => by
  cases ed
  exact q G H (Gx.refl s.gx.gh)⟩
theorem o_so (h : DX X .val e f) : DO X (some e) (oSo f) := ⟨(po_some h.pe).imp fun σ H Q ⟨G0, H0, G, ρ, o, s, ed, q⟩ => by
  obtain ⟨d1, e1, ed⟩ := bind_some ed
  unfold asI at ed
  split at ed
  · cases ed
    refine ⟨G0, H0, G, ρ, _, s, e1, fun G1 H1 v gx r => ?_⟩
    cases (show Rep X.K G1 (.int _) v from r)
    exact ⟨_, rfl, q G1 H1 gx⟩
  · cases ed⟩
def cutD (xs : List PyData) (lo hi : Option Int) : List PyData := (xs.drop (HT.sIx xs.length 0 lo)).take (HT.sIx xs.length xs.length hi - HT.sIx xs.length 0 lo)
theorem RepA.cut {G : Hp} {ds : List PyData} {vs : List V} (r : RepA K G ds vs) (lo hi : Option Int) : RepA K G (cutD ds lo hi) (cutV vs lo hi) := by
  unfold cutD cutV
  rw [r.len]
  exact (r.drop _).take _
def oSl (d : PyData) (lo hi : Option Int) : Option PyData := match d with
  | .list ds => some (.list (cutD ds lo hi))
  | .str z => if z.length ≤ sizeLine then some (.str (cutS z lo hi)) else none
  | _ => none
def oSlL (d : PyData) (lo hi : Option Int) : Option PyData := match d with
  | .list ds => some (.list (cutD ds lo hi))
  | _ => none
def eSl (F : PyData → Option Int → Option Int → Option PyData) (f : SE) (g h : SO) : SE := fun ρ => (f ρ).bind fun d => (g ρ).bind fun lo => (h ρ).bind fun hi => F d lo hi
variable {gl gh : SO}
theorem sl_three {K : PySem.W.Frag} {r : V → Option Int → Option Int → Hp → VK → Prop} {mo : Md} {F : PyData → Option Int → Option Int → Option PyData}
    (hF : ∀ (G0 H0 G1 H1 G H : Hp) (d1 d : PyData) (lo hi : Option Int) (x : V) (Q : VK), Ex G H → Gx G1 H1 G H → RM K H0 H0 mo G H d1 x → F d1 lo hi = some d → (∀ G' H' v, Gx G H G' H' → RM K H0 H m G' H' d v → Q v H') → r x lo hi H Q) (hmo : ∀ {H0 Hs G H d v}, RM K H0 Hs mo G H d v → RM K H0 H0 mo G H d v) :
    ∀ σ H Q, tE K m (eSl F f gl gh) σ H Q → tSl r (tE K mo f) (tO K gl) (tO K gh) σ H Q := fun σ H Q ⟨G0, H0, G, ρ, d, s, ed, q⟩ => by
  obtain ⟨d1, e1, ed⟩ := bind_some ed
  obtain ⟨lo, e2, ed⟩ := bind_some ed
  obtain ⟨hi, e3, ed⟩ := bind_some ed
  refine ⟨G0, H0, G, ρ, d1, s, e1, fun G1 H1 x gx1 r1 => ⟨G0, H0, G1, ρ, lo, s.gx' gx1, e2, fun G2 H2 gx2 => ⟨G0, H0, G2, ρ, hi, (s.gx' gx1).gx' gx2, e3, fun G3 H3 gx3 => ?_⟩⟩⟩
  have gx := (gx1.trans gx2).trans gx3
  exact hF G0.g H0 G H G3 H3 d1 d lo hi x Q gx3.gh gx (hmo (r1.mono (gx2.trans gx3))) ed fun G' H' v gx4 r4 => q G' H' v (gx.trans gx4) (r4.start gx.h)
theorem d_slice (ha : DX X .bor e f) (hl : DO X lo gl) (hu : DO X hi gh) : DX X .val (.Subscript e (.Slice lo hi none p2) pos) (eSl oSl f gl gh) :=
  ⟨(pe_slice (SlR.or sl_list sl_str) ha.pe hl.po hu.po).imp (sl_three (mo := .bor) (fun G0 H0 G1 H1 G H d1 d lo hi x Q e gx r1 h q => by
    unfold oSl at h
    split at h
    · cases h
      obtain ⟨a, vs, rfl, h1, ra⟩ := RepB.rd e r1
      exact .inl ⟨a, vs, rfl, .inl h1, fun p np => newList (.inl rfl) e np (ra.cut lo hi) fun G' H' v gx' r' => q G' H' v gx' (r' H0)⟩
    · obtain ⟨hz, rfl⟩ := if_some h
      cases RepB.str r1
      exact .inr ⟨_, rfl, hz, q G H _ (Gx.refl e) (.str _)⟩
    · cases h) fun h => h)⟩
theorem d_sliceN (ha : DX X .bor e f) (hl : DO X lo gl) (hu : DO X hi gh) : DX X .new (.Subscript e (.Slice lo hi none p2) pos) (eSl oSlL f gl gh) :=
  ⟨(pe_slice sl_list ha.pe hl.po hu.po).imp (sl_three (mo := .bor) (fun G0 H0 G1 H1 G H d1 d lo hi x Q e gx r1 h q => by
    unfold oSlL at h
    split at h
    · cases h
      obtain ⟨a, vs, rfl, h1, ra⟩ := RepB.rd e r1
      exact ⟨a, vs, rfl, .inl h1, fun p np => newList (.inr rfl) e np (ra.cut lo hi) fun G' H' v gx' r' => q G' H' v gx' (r' H0)⟩
    · cases h) fun h => h)⟩
/-- a part of the script -/
theorem d_sliceS (ha : DX X .scr e f) (hl : DO X lo gl) (hu : DO X hi gh) : DX X .new (.Subscript e (.Slice lo hi none p2) pos) (eSl oSlL f gl gh) :=
  ⟨(pe_slice sl_list ha.pe hl.po hu.po).imp (sl_three (mo := .scr) (fun G0 H0 G1 H1 G H d1 d lo hi x Q e gx r1 h q => by
    obtain ⟨a, ns, rfl, rfl, hq⟩ := r1
    cases h
    exact ⟨a, _, rfl, hq, fun p np => newList (.inr rfl) e np ((RepA.ints ns).cut lo hi) fun G' H' v gx' r' => q G' H' v gx' (r' H0)⟩) fun h => h)⟩
def oRev : PyData → Option PyData
  | .list ds => some (.list ds.reverse)
  | _ => none
theorem d_rev {k : Nat} {p1 p3 p4 : Pos} (ha : DX X .bor e f) : DX X .new (.Subscript e (.Slice none none (some (.UnaryOp .USub (.Constant (.int 1) k p1) p3)) p4) pos) (eUn oRev f) :=
  ⟨(pe_revL ha.pe).imp fun σ H Q ⟨G0, H0, G, ρ, d, s, ed, q⟩ => by
    obtain ⟨d1, e1, ed⟩ := bind_some ed
    unfold oRev at ed
    split at ed
    · cases ed
      refine ⟨G0, H0, G, ρ, _, s, e1, fun G1 H1 x gx1 r1 => ?_⟩
      obtain ⟨a, vs, rfl, h1, ra⟩ := RepB.rd gx1.gh r1
      exact ⟨a, vs, rfl, .inl h1, fun p np => newList (.inr rfl) gx1.gh np ra.reverse fun G' H' v gx' r' => q G' H' v (gx1.trans gx') ((r' H0).start gx1.h)⟩
    · cases ed⟩
end

/-! ### calls of built-ins -/
inductive RepBA (K : PySem.W.Frag) (G H : Hp) : List PyData → List V → Prop
  | nil : RepBA K G H [] []
  | cons {d : PyData} {ds : List PyData} {v : V} {vs : List V} : RepB K G H d v → RepBA K G H ds vs → RepBA K G H (d :: ds) (v :: vs)
theorem RMs.bors {K : PySem.W.Frag} {H0 Hs G H : Hp} : ∀ {ms : List Md} {ds : List PyData} {vs : List V}, (∀ m ∈ ms, m = .bor) → RMs K H0 Hs G H ms ds vs → RepBA K G H ds vs
  | _, _, _, _, .nil => .nil
  | m :: _, _, _, q, .cons h t => by
    have e : m = .bor := q m List.mem_cons_self
    subst e
    exact .cons h (RMs.bors (fun m hm => q m (List.mem_cons_of_mem _ hm)) t)
theorem RepBA.one {K : PySem.W.Frag} {G H : Hp} {d : PyData} {vs : List V} (h : RepBA K G H [d] vs) : ∃ v, vs = [v] ∧ RepB K G H d v := by
  cases h with
  | cons h t => cases t; exact ⟨_, rfl, h⟩
theorem RepBA.two {K : PySem.W.Frag} {G H : Hp} {d d' : PyData} {vs : List V} (h : RepBA K G H [d, d'] vs) : ∃ v v', vs = [v, v'] ∧ RepB K G H d v ∧ RepB K G H d' v' := by
  cases h with
  | cons h t =>
    obtain ⟨w, rfl, h2⟩ := t.one
    exact ⟨_, _, rfl, h, h2⟩
def CallF (K : PySem.W.Frag) (m : Md) (r : List V → Hp → VK → Prop) (F : List PyData → Option PyData) : Prop :=
  ∀ (G H : Hp) (ds : List PyData) (d : PyData) (vs : List V) (Q : VK), Ex G H → RepBA K G H ds vs → F ds = some d → (∀ G' H' v, Gx G H G' H' → (∀ H0, RM K H0 H m G' H' d v) → Q v H') → r vs H Q
section
variable {K : PySem.W.Frag} {X : Cx} {e : Expr} {es : List Expr} {m : Md} {ms : List Md} {pos p : Pos} {r : List V → Hp → VK → Prop} {ra : SA} {F : List PyData → Option PyData} {x : Str} {id T : String}
theorem callB_of {K : PySem.W.Frag} (hF : CallF K m r F) (hms : ∀ m ∈ ms, m = .bor) : ∀ σ H Q, tE K m (eCall F ra) σ H Q → tCB r (tA K ms ra) σ H Q := fun σ H Q ⟨G0, H0, G, ρ, d, s, ed, q⟩ => by
  obtain ⟨ds, e1, e2⟩ := bind_some ed
  refine ⟨G0, H0, G, ρ, ds, s, e1, fun G' H' vs gx rr => ?_⟩
  exact hF G' H' ds d vs Q gx.gh (rr.bors hms) e2 fun G2 H2 v gx2 r2 => q G2 H2 v (gx.trans gx2) ((r2 H0).start gx.h)
theorem d_callB (hc : CallR X (.builtin id) r) (hF : CallF X.K m r F) (hms : ∀ m ∈ ms, m = .bor) (hg : Gl X x) (hm : X.mg x = none) (hv : bootBuiltins x = some (.builtin id)) (ha : DA X ms (e :: es) ra) (hn : x ≠ "__name__" := by decide) (hdb : (x == ("__debug__" : Str)) = false := by decide)
    (he : starEach (e :: es) X.env = (false, eval e X.env) :: starEach es X.env := by rfl) (hpl : (backTo pos (starEach es X.env)).any (·.1) = false := by rfl) : DX X m (.Call (.Name x p) (e :: es) [] pos) (eCall F ra) :=
  ⟨(pe_callB hc hg hm hv ha.pa hn hdb he hpl).imp (callB_of hF hms)⟩
theorem d_callTy (hc : CallR X (.type T) r) (hF : CallF X.K m r F) (hms : ∀ m ∈ ms, m = .bor) (hg : Gl X x) (hm : X.mg x = none) (hv : bootBuiltins x = some (.type T)) (ha : DA X ms (e :: es) ra) (hn : x ≠ "__name__" := by decide) (hdb : (x == ("__debug__" : Str)) = false := by decide)
    (he : starEach (e :: es) X.env = (false, eval e X.env) :: starEach es X.env := by rfl) (hpl : (backTo pos (starEach es X.env)).any (·.1) = false := by rfl) : DX X m (.Call (.Name x p) (e :: es) [] pos) (eCall F ra) :=
  ⟨(pe_callTy hc hg hm hv ha.pa hn hdb he hpl).imp (callB_of hF hms)⟩
end
end DV

namespace DV
open PySem L2

/-! ### the built-ins -/
section
variable {K : PySem.W.Frag} {X : Cx}
theorem RepBA.none1 {G H : Hp} {ds : List PyData} {vs : List V} (h : RepBA K G H ds vs) : ds.length = vs.length := by
  induction h with
  | nil => rfl
  | cons _ _ ih => exact congrArg (· + 1) ih
def cLen : List PyData → Option PyData
  | [.list l] => some (.int (l.length : Nat))
  | [.tuple l] => some (.int (l.length : Nat))
  | [.str z] => if z.length ≤ sizeLine then some (.int (z.length : Nat)) else none
  | _ => none
theorem cf_len : CallF K .val (fun xs H Q => ∃ x n, xs = [x] ∧ LenV K x H n ∧ Q (.int n) H) cLen := fun G H ds d vs Q e r h q => by
  unfold cLen at h
  split at h
  · cases h
    obtain ⟨v, rfl, r1⟩ := r.one
    obtain ⟨a, us, rfl, h1, ra⟩ := r1.rd e
    exact ⟨_, _, rfl, .inl ⟨us, .inl h1, ra.len⟩, q G H _ (Gx.refl e) fun _ => .int _⟩
  · cases h
    obtain ⟨v, rfl, r1⟩ := r.one
    obtain ⟨a, us, rfl, h1, ra⟩ := r1.seqT
    exact ⟨_, _, rfl, .inr ⟨us, h1 H e, ra.len⟩, q G H _ (Gx.refl e) fun _ => .int _⟩
  · obtain ⟨hz, rfl⟩ := if_some h
    obtain ⟨v, rfl, r1⟩ := r.one
    cases r1.str
    exact ⟨_, _, rfl, ⟨hz, rfl⟩, q G H _ (Gx.refl e) fun _ => .int _⟩
  · cases h
/-- int(n) -/
def cInt : List PyData → Option PyData
  | [.int i] => some (.int i)
  | [.bool k] => some (.int (if k then 1 else 0))
  | _ => none
theorem cf_int : CallF K .val (fun xs H Q => (∃ i, xs = [.int i] ∧ Q (.int i) H) ∨ ∃ k, xs = [.bl k] ∧ Q (.int (if k then 1 else 0)) H) cInt := fun G H ds d vs Q e r h q => by
  unfold cInt at h
  split at h
  · cases h
    obtain ⟨v, rfl, r1⟩ := r.one
    cases r1.int
    exact .inl ⟨_, rfl, q G H _ (Gx.refl e) fun _ => .int _⟩
  · cases h
    obtain ⟨v, rfl, r1⟩ := r.one
    cases r1.bl
    exact .inr ⟨_, rfl, q G H _ (Gx.refl e) fun _ => .int _⟩
  · cases h
def cAbs : List PyData → Option PyData
  | [.int i] => some (.int (if i < 0 then -i else i))
  | _ => none
theorem cf_abs : CallF K .val (fun xs H Q => ∃ i, xs = [.int i] ∧ Q (.int (if i < 0 then -i else i)) H) cAbs := fun G H ds d vs Q e r h q => by
  unfold cAbs at h
  split at h
  · cases h
    obtain ⟨v, rfl, r1⟩ := r.one
    cases r1.int
    exact ⟨_, rfl, q G H _ (Gx.refl e) fun _ => .int _⟩
  · cases h
def cMax2 : List PyData → Option PyData
  | [.int i, .int j] => some (.int (if j > i then j else i))
  | _ => none
def cMin2 : List PyData → Option PyData
  | [.int i, .int j] => some (.int (if j < i then j else i))
  | _ => none
theorem cf_max2 : CallF K .val (fun xs H Q => ∃ i j, xs = [.int i, .int j] ∧ Q (.int (if j > i then j else i)) H) cMax2 := fun G H ds d vs Q e r h q => by
  unfold cMax2 at h
  split at h
  · cases h
    obtain ⟨v, w, rfl, r1, r2⟩ := r.two
    cases r1.int
    cases r2.int
    exact ⟨_, _, rfl, q G H _ (Gx.refl e) fun _ => .int _⟩
  · cases h
theorem cf_min2 : CallF K .val (fun xs H Q => ∃ i j, xs = [.int i, .int j] ∧ Q (.int (if j < i then j else i)) H) cMin2 := fun G H ds d vs Q e r h q => by
  unfold cMin2 at h
  split at h
  · cases h
    obtain ⟨v, w, rfl, r1, r2⟩ := r.two
    cases r1.int
    cases r2.int
    exact ⟨_, _, rfl, q G H _ (Gx.refl e) fun _ => .int _⟩
  · cases h
/-- all ints -/
def intsOf : List PyData → Option (List Int)
  | [] => some []
  | .int i :: r => (intsOf r).map (i :: ·)
  | _ => none
theorem intsOf_some : ∀ {ds : List PyData} {ns : List Int}, intsOf ds = some ns → ds = ns.map .int
  | [], ns, h => by cases h; rfl
  | .int i :: r, ns, h => by
    unfold intsOf at h
    cases e : intsOf r with
    | none => rw [e] at h; cases h
    | some ms => rw [e] at h; cases h; rw [intsOf_some e]; rfl
theorem intsOf_map (ns : List Int) : intsOf (ns.map .int) = some ns := by
  induction ns with
  | nil => rfl
  | cons n r ih => show (intsOf (r.map .int)).map (n :: ·) = _; rw [ih]; rfl
def cSum : List PyData → Option PyData
  | [.list l] => (intsOf l).map fun ns => .int ns.sum
  | _ => none
theorem map_some {α β : Type} {o : Option α} {k : α → β} {b : β} (h : o.map k = some b) : ∃ a, o = some a ∧ k a = b := by
  cases o with
  | none => cases h
  | some a => exact ⟨a, rfl, Option.some.inj h⟩
theorem RepB.ints {G H : Hp} (e : Ex G H) {ns : List Int} {v : V} (r : RepB K G H (.list (ns.map .int)) v) : ∃ a, v = .ref a ∧ Rd H a (.lst (ns.map V.int)) := by
  obtain ⟨a, us, rfl, h1, ra⟩ := r.rd e
  cases ra.ofInts
  exact ⟨a, rfl, h1⟩
theorem cf_sum : CallF K .val (rSum K) cSum := fun G H ds d vs Q e r h q => by
  unfold cSum at h
  split at h
  · obtain ⟨ns, h1, rfl⟩ := map_some h
    obtain ⟨v, rfl, r1⟩ := r.one
    cases intsOf_some h1
    obtain ⟨a, rfl, h2⟩ := r1.ints e
    exact ⟨a, ns, rfl, .inl h2, q G H _ (Gx.refl e) fun _ => .int _⟩
  · cases h
def maxL : Int → List Int → Int
  | m, [] => m
  | m, x :: r => maxL (max m x) r
def minL : Int → List Int → Int
  | m, [] => m
  | m, x :: r => minL (min m x) r
theorem maxL_ge : ∀ (r : List Int) (m : Int), m ≤ maxL m r ∧ ∀ y ∈ r, y ≤ maxL m r
  | [], m => ⟨Int.le_refl _, fun y h => by cases h⟩
  | x :: r, m => by
    obtain ⟨h1, h2⟩ := maxL_ge r (max m x)
    refine ⟨by show m ≤ maxL (max m x) r; omega, fun y hy => ?_⟩
    show y ≤ maxL (max m x) r
    rcases List.mem_cons.mp hy with rfl | hy
    · omega
    · exact h2 y hy
theorem maxL_mem : ∀ (r : List Int) (m : Int), maxL m r = m ∨ maxL m r ∈ r
  | [], m => .inl rfl
  | x :: r, m => by
    show maxL (max m x) r = m ∨ maxL (max m x) r ∈ x :: r
    rcases maxL_mem r (max m x) with h | h
    · by_cases c : m ≤ x
      · right; rw [h, show max m x = x by omega]; exact List.mem_cons_self
      · left; rw [h]; omega
    · exact .inr (List.mem_cons_of_mem _ h)
theorem minL_le : ∀ (r : List Int) (m : Int), minL m r ≤ m ∧ ∀ y ∈ r, minL m r ≤ y
  | [], m => ⟨Int.le_refl _, fun y h => by cases h⟩
  | x :: r, m => by
    obtain ⟨h1, h2⟩ := minL_le r (min m x)
    refine ⟨by show minL (min m x) r ≤ m; omega, fun y hy => ?_⟩
    show minL (min m x) r ≤ y
    rcases List.mem_cons.mp hy with rfl | hy
    · omega
    · exact h2 y hy
theorem minL_mem : ∀ (r : List Int) (m : Int), minL m r = m ∨ minL m r ∈ r
  | [], m => .inl rfl
  | x :: r, m => by
    show minL (min m x) r = m ∨ minL (min m x) r ∈ x :: r
    rcases minL_mem r (min m x) with h | h
    · by_cases c : x ≤ m
      · right; rw [h, show min m x = x by omega]; exact List.mem_cons_self
      · left; rw [h]; omega
    · exact .inr (List.mem_cons_of_mem _ h)
def cMaxL : List PyData → Option PyData
  | [.list l] => (intsOf l).bind fun ns => match ns with
    | n :: r => some (.int (maxL n r))
    | [] => none
  | _ => none
def cMinL : List PyData → Option PyData
  | [.list l] => (intsOf l).bind fun ns => match ns with
    | n :: r => some (.int (minL n r))
    | [] => none
  | _ => none
theorem maxL_eq {n m : Int} {r : List Int} (hm : m ∈ n :: r) (hall : ∀ y, y ∈ n :: r → y ≤ m) : m = maxL n r := by
  have z1 : m ≤ maxL n r := by
    rcases List.mem_cons.mp hm with rfl | hm
    · exact (maxL_ge r _).1
    · exact (maxL_ge r n).2 m hm
  have z2 : maxL n r ≤ m := by
    rcases maxL_mem r n with z | z
    · rw [z]; exact hall n List.mem_cons_self
    · exact hall _ (List.mem_cons_of_mem _ z)
  omega
theorem cf_maxL : CallF K .val (rMax K) cMaxL := fun G H ds d vs Q e r h q => by
  unfold cMaxL at h
  split at h
  · obtain ⟨ns, h1, h2⟩ := bind_some h
    cases ns with
    | nil => cases h2
    | cons n t =>
      cases h2
      obtain ⟨v, rfl, r1⟩ := r.one
      cases intsOf_some h1
      obtain ⟨a, rfl, h2⟩ := r1.ints e
      refine ⟨a, _, rfl, .inl h2, Nat.succ_pos _, fun m hm hall => ?_⟩
      rw [maxL_eq hm hall]
      exact q G H _ (Gx.refl e) fun _ => .int _
  · cases h
theorem minL_eq {n m : Int} {r : List Int} (hm : m ∈ n :: r) (hall : ∀ y, y ∈ n :: r → m ≤ y) : m = minL n r := by
  have z1 : minL n r ≤ m := by
    rcases List.mem_cons.mp hm with rfl | hm
    · exact (minL_le r _).1
    · exact (minL_le r n).2 m hm
  have z2 : m ≤ minL n r := by
    rcases minL_mem r n with z | z
    · rw [z]; exact hall n List.mem_cons_self
    · exact hall _ (List.mem_cons_of_mem _ z)
  omega
theorem cf_minL : CallF K .val (rMin K) cMinL := fun G H ds d vs Q e r h q => by
  unfold cMinL at h
  split at h
  · obtain ⟨ns, h1, h2⟩ := bind_some h
    cases ns with
    | nil => cases h2
    | cons n t =>
      cases h2
      obtain ⟨v, rfl, r1⟩ := r.one
      cases intsOf_some h1
      obtain ⟨a, rfl, h2⟩ := r1.ints e
      refine ⟨a, _, rfl, .inl h2, Nat.succ_pos _, fun m hm hall => ?_⟩
      rw [minL_eq hm hall]
      exact q G H _ (Gx.refl e) fun _ => .int _
  · cases h
def boolsOf : List PyData → Option (List Bool)
  | [] => some []
  | .bool i :: r => (boolsOf r).map (i :: ·)
  | _ => none
theorem boolsOf_some : ∀ {ds : List PyData} {ns : List Bool}, boolsOf ds = some ns → ds = ns.map .bool
  | [], ns, h => by cases h; rfl
  | .bool i :: r, ns, h => by
    unfold boolsOf at h
    cases e : boolsOf r with
    | none => rw [e] at h; cases h
    | some ms => rw [e] at h; cases h; rw [boolsOf_some e]; rfl
theorem boolsOf_map (ns : List Bool) : boolsOf (ns.map .bool) = some ns := by
  induction ns with
  | nil => rfl
  | cons n r ih => show (boolsOf (r.map .bool)).map (n :: ·) = _; rw [ih]; rfl
theorem RepA.ofBools {G : Hp} : ∀ {ns : List Bool} {vs : List V}, RepA K G (ns.map .bool) vs → vs = ns.map V.bl
  | [], _, .nil => rfl
  | n :: r, _, .cons h t => by
    cases h
    rw [RepA.ofBools t]; rfl
def cAny : List PyData → Option PyData
  | [.list l] => (boolsOf l).map fun ns => .bool (ns.any id)
  | _ => none
theorem cf_any : CallF K .val (rAny K) cAny := fun G H ds d vs Q e r h q => by
  unfold cAny at h
  split at h
  · obtain ⟨ns, h1, rfl⟩ := map_some h
    obtain ⟨v, rfl, r1⟩ := r.one
    cases boolsOf_some h1
    obtain ⟨a, us, rfl, h2, ra⟩ := r1.rd e
    cases ra.ofBools
    exact ⟨a, ns, rfl, .inl h2, q G H _ (Gx.refl e) fun _ => .bl _⟩
  · cases h
/-- list(a list, a tuple) -/
def cList : List PyData → Option PyData
  | [.list l] => some (.list l)
  | [.tuple l] => some (.list l)
  | _ => none
theorem cf_list : CallF K .new (fun xs H Q => ∃ p ys, xs = [.ref p] ∧ (SqL K H p ys ∨ SqT K H p ys) ∧ ∀ l, H l = none → Q (.ref l) (upd H l (.lst ys))) cList := fun G H ds d vs Q e r h q => by
  unfold cList at h
  split at h
  · cases h
    obtain ⟨v, rfl, r1⟩ := r.one
    obtain ⟨a, us, rfl, h2, ra⟩ := r1.rd e
    exact ⟨a, us, rfl, .inl (.inl h2), fun p np => newList (.inr rfl) e np ra q⟩
  · cases h
    obtain ⟨v, rfl, r1⟩ := r.one
    obtain ⟨a, us, rfl, h2, ra⟩ := r1.seqT
    exact ⟨a, us, rfl, .inr (h2 H e), fun p np => newList (.inr rfl) e np ra q⟩
  · cases h
end

/-! ### isinstance of a built-in class -/
def tyName : PyData → String
  | .none => "NoneType"
  | .bool _ => "bool"
  | .int _ => "int"
  | .str _ => "str"
  | .list _ => "list"
  | .tuple _ => "tuple"
  | .dict _ => "dict"
def isT (T : String) : PyData → Option Bool
  | .bool _ => some (T == "bool" || T == "int")
  | .dict _ => none
  | d => some (tyName d == T)
def eIs (T : String) (f : SE) : SE := fun ρ => (f ρ).bind fun d => (isT T d).map .bool
theorem rep_ty {K : PySem.W.Frag} {G H : Hp} (e : Ex G H) {d : PyData} {v : V} (nd : ∀ es, d ≠ .dict es) (r : RepB K G H d v) : TyX K H v (.type (tyName d)) := by
  cases r with
  | lst h _ => exact .base (.lst h)
  | dK h _ _ => exact .base (.dK h)
  | dT h _ _ => exact .base (.dT h)
  | val r =>
    cases r with
    | non => exact .base .non
    | bl b => exact .base (.bl b)
    | int i => exact .base (.int i)
    | str x => exact .base (.str x)
    | lst h _ =>
      rcases e.rd h with h | ⟨o, h⟩
      · exact .base (.lst h)
      · exact .base (.frz h)
    | tup h _ =>
      rcases e.sqt (K := K) (sqtOf h) with (h | ⟨o, h⟩) | ⟨o, its, n, k, c, _⟩
      · exact .base (.tup h)
      · exact .fTuple h
      · exact .kTuple k c
    | dK h _ _ => exact absurd rfl (nd _)
    | dT h _ _ => exact absurd rfl (nd _)
/-- the built-in class T, for which the model's own answers are what isT says -/
def TyOkT (T : String) : Prop := ∀ n ∈ ["NoneType", "int", "str", "list", "tuple"], kitB n T = some (n == T)
theorem d_isi {X : Cx} {T : String} {a : Expr} {f : SE} {y : Str} {p p1 pos : Pos} (hg : Gl X "isinstance") (hm : X.mg "isinstance" = none) (ha : DX X .bor a f)
    (hgT : Gl X y) (hmT : X.mg y = none) (hvT : bootBuiltins y = some (.type T)) (ok : TyOkT T) (okB : kitB "bool" T = some (T == "bool" || T == "int"))
    (hnT : y ≠ "__name__" := by decide) (hdT : (y == ("__debug__" : Str)) = false := by decide)
    (he : starEach [a, .Name y p1] X.env = (false, eval a X.env) :: starEach [.Name y p1] X.env := by rfl) (hpl : (backTo pos (starEach [.Name y p1] X.env)).any (·.1) = false := by rfl) (h2 : starEach [.Name y p1] X.env = (false, eval (.Name y p1) X.env) :: starEach [] X.env := by rfl) :
    DX X .val (.Call (.Name "isinstance" p) [a, .Name y p1] [] pos) (eIs T f) :=
  ⟨(pe_callB call_isi hg hm PyProof.Rows.boot_isinstance (pa_cons ha.pe (pa_cons (pe_bltn (v := .ty T) hgT hmT hvT rfl hnT hdT) pa_nil h2) he) (by decide) (by decide) he hpl).imp fun σ H Q ⟨G0, H0, G, ρ, d, s, ed, q⟩ => by
    obtain ⟨d1, e1, ed⟩ := bind_some ed
    obtain ⟨k, e2, rfl⟩ := map_some ed
    refine ⟨G0, H0, G, ρ, d1, s, e1, fun G1 H1 v gx r => ?_⟩
    have nd : ∀ es, d1 ≠ .dict es := fun es z => by subst z; cases e2
    have kk : kitB (tyName d1) T = some k := by
      cases d1 with
      | bool b => rw [show tyName (.bool b) = "bool" from rfl, okB]; exact e2
      | dict es => exact absurd rfl (nd es)
      | none => rw [ok _ (by decide)]; exact e2
      | int i => rw [show tyName (.int i) = "int" from rfl, ok _ (by decide)]; exact e2
      | str i => rw [show tyName (.str i) = "str" from rfl, ok _ (by decide)]; exact e2
      | list i => rw [show tyName (.list i) = "list" from rfl, ok _ (by decide)]; exact e2
      | tuple i => rw [show tyName (.tuple i) = "tuple" from rfl, ok _ (by decide)]; exact e2
    exact ⟨v, .ty T, .type (tyName d1), .type T, k, rfl, .ty T, rep_ty gx.gh nd r, kit_ty kk, q G1 H1 _ gx (.bl _)⟩⟩
theorem okT_int : TyOkT "int" := by unfold TyOkT; decide +kernel
theorem okT_bool : TyOkT "bool" := by unfold TyOkT; decide +kernel
theorem okT_tuple : TyOkT "tuple" := by unfold TyOkT; decide +kernel
theorem okT_list : TyOkT "list" := by unfold TyOkT; decide +kernel
theorem okT_str : TyOkT "str" := by unfold TyOkT; decide +kernel

/-! ### own lists change -/
section
variable {X : Cx} {rm : Md} {a b e : Expr} {f g : SE} {r : SA} {pos p2 p1 cpos apos : Pos} {x : Str}
/-- what an own slot holds becomes F of it and a value -/
def sMut (F : List PyData → List PyData → Option PyData) (i : Nat) (r : SA) : SS := fun ρ => match ρ[i]? with
  | some (.own (.list l)) => (r ρ).bind fun ds => (F l ds).bind fun d => some (.nx (ρ.set i (.own d)))
  | _ => none
theorem own_list {K : PySem.W.Frag} {G H : Hp} {a : Addr} {l : List PyData} (h : Own K G H a (.list l)) : ∃ vs, H a = some (.lst vs) ∧ RepA K G l vs := by
  cases h with
  | lst h r => exact ⟨_, h, r⟩
/-- a method of an own list that is dropped as a statement -/
theorem mut_of {K : PySem.W.Frag} {i : Nat} {ms : List Md} {rr : V → List V → Hp → VK → Prop} {F : List PyData → List PyData → Option PyData}
    (hF : ∀ (G H : Hp) (l ds : List PyData) (d : PyData) (vs us : List V) (p : Addr) (Q : VK), Ex G H → H p = some (.lst vs) → RepA K G l vs → RepA K G ds us → F l ds = some d → (∀ o v, Own K G (upd H p o) p d → Q v (upd H p o)) → rr (.ref p) us H Q)
    (hms : ∀ m ∈ ms, m = .val) : ∀ D σ H, tS K rm (sMut F i r) D σ H → tDrop (tBM K "list" rr (tVar i) (tA K ms r)) D σ H := fun D σ H ⟨G0, H0, G, ρ, o, s, e, q⟩ => by
  unfold sMut at e
  split at e
  · rename_i l h
    obtain ⟨ds, e1, e⟩ := bind_some e
    obtain ⟨d, e2, e⟩ := bind_some e
    cases e
    obtain ⟨p, h1, h2, h3, h4⟩ := s.own h
    obtain ⟨vs, hv, _⟩ := own_list h4
    refine ⟨_, h1, .inl ⟨rfl, _, SqL.of hv⟩, G0, H0, G, ρ, ds, s, e1, fun G1 H1 us gx ra => ?_⟩
    have s1 := s.gx' gx
    obtain ⟨p', k1, k2, k3, k4⟩ := s1.own h
    rw [h1] at k1; cases k1
    obtain ⟨vs', hv', rl⟩ := own_list k4
    exact hF G1 H1 l ds d vs' us p _ gx.gh hv' rl (ra.vals hms) e2 fun o v ow => q G1 σ _ gx.g (s1.write h h1 k2 k3 ow)
  · cases e
def fApp : List PyData → List PyData → Option PyData := fun l ds => match ds with
  | [d] => if l.length < sizeLine then some (.list (l ++ [d])) else none
  | _ => none
theorem s_app (i : Nat) (ha : DX X .val a f) (hN : X.N[i]? = some x := by rfl) (hv : Vis X.env.scope x := by first | exact Or.inl rfl | exact Or.inr (Or.inl rfl) | exact Or.inr (Or.inr rfl)) (hd : (x == ("__debug__" : Str)) = false := by decide)
    (hcd : (x == ("__classdict__" : Str)) = false := by decide)
    (hbase : attributeBase (.Name x p1) "append" X.env (eval (.Name x p1) X.env) = eval (.Name x p1) X.env := by rfl)
    (hfew : ((backTo cpos (starEach (a :: []) X.env)).all (fun x => !x.1) && (backToKw cpos (keywordEach [] X.env)).all (fun x => x.1.isSome)
      && decide ((a :: []).length + ([] : List Keyword).length + (if ([] : List Keyword).isEmpty then 0 else 1) < 30)) = true := by rfl)
    (hline : (apos.endLine == cpos.line) = true := by rfl) (hs : starEach (a :: []) X.env = (false, eval a X.env) :: starEach [] X.env := by rfl) (hplain : (backTo cpos (starEach [] X.env)).any (·.1) = false := by rfl)
    (hsw : swapsWith (.Call (.Attribute (.Name x p1) "append" apos) [a] [] cpos) none pos.line X.env = pure false := by rfl) :
    DS X rm (.Expr (.Call (.Attribute (.Name x p1) "append" apos) [a] [] cpos) pos) (sMut fApp i (aCons f aNil)) :=
  ⟨(ps_expr (pe_bm PySem.F.plainAttrs_list PySem.F.slot_list_append PySem.F.type_list_append mt_append (pv i hN hv hd hcd) (a_cons ha a_nil hs).pa hbase hfew hline hs hplain) hsw).imp
    (mut_of (fun G H l ds d vs us p Q e hv rl ra h q => by
      unfold fApp at h
      split at h
      · obtain ⟨hl, rfl⟩ := if_some h
        cases ra with
        | cons r1 t =>
          cases t
          exact ⟨p, vs, _, rfl, rfl, hv, by rw [← rl.len]; exact hl, q _ _ (.lst upd_same (rl.app (.cons r1 .nil)))⟩
      · cases h) (fun m hm => List.mem_singleton.mp hm))⟩
def fExt : List PyData → List PyData → Option PyData := fun l ds => match ds with
  | [.list k] => if l.length + k.length ≤ sizeLine then some (.list (l ++ k)) else none
  | _ => none
def rExtR : V → List V → Hp → VK → Prop := fun x vs H Q => ∃ l b xs zs, x = .ref l ∧ vs = [.ref b] ∧ H l = some (.lst xs) ∧ Rd H b (.lst zs) ∧ xs.length + zs.length ≤ sizeLine ∧ Q .non (upd H l (.lst (xs ++ zs)))
def fIns : List PyData → List PyData → Option PyData := fun l ds => match ds with
  | [.int i, d] => if l.length < sizeLine ∧ 0 ≤ i ∧ i < 2 ^ 63 then some (.list (l.take i.toNat ++ [d] ++ l.drop i.toNat)) else none
  | _ => none
theorem s_ins (i : Nat) (ha : DX X .val a f) (hb : DX X .val b g) (hN : X.N[i]? = some x := by rfl) (hv : Vis X.env.scope x := by first | exact Or.inl rfl | exact Or.inr (Or.inl rfl) | exact Or.inr (Or.inr rfl)) (hd : (x == ("__debug__" : Str)) = false := by decide)
    (hcd : (x == ("__classdict__" : Str)) = false := by decide)
    (hbase : attributeBase (.Name x p1) "insert" X.env (eval (.Name x p1) X.env) = eval (.Name x p1) X.env := by rfl)
    (hfew : ((backTo cpos (starEach [a, b] X.env)).all (fun x => !x.1) && (backToKw cpos (keywordEach [] X.env)).all (fun x => x.1.isSome)
      && decide ([a, b].length + ([] : List Keyword).length + (if ([] : List Keyword).isEmpty then 0 else 1) < 30)) = true := by rfl)
    (hline : (apos.endLine == cpos.line) = true := by rfl) (hs : starEach [a, b] X.env = (false, eval a X.env) :: starEach [b] X.env := by rfl) (hs2 : starEach [b] X.env = (false, eval b X.env) :: starEach [] X.env := by rfl) (hplain : (backTo cpos (starEach [b] X.env)).any (·.1) = false := by rfl)
    (hsw : swapsWith (.Call (.Attribute (.Name x p1) "insert" apos) [a, b] [] cpos) none pos.line X.env = pure false := by rfl) :
    DS X rm (.Expr (.Call (.Attribute (.Name x p1) "insert" apos) [a, b] [] cpos) pos) (sMut fIns i (aCons f (aCons g aNil))) :=
  ⟨(ps_expr (pe_bm PySem.F.plainAttrs_list PySem.F.slot_list_insert PySem.F.type_list_insert mt_insert (pv i hN hv hd hcd) (a_cons ha (a_cons hb a_nil hs2) hs).pa hbase hfew hline hs hplain) hsw).imp
    (mut_of (fun G H l ds d vs us p Q e hv rl ra h q => by
      unfold fIns at h
      split at h
      · obtain ⟨⟨hl, h0, h1⟩, rfl⟩ := if_some h
        cases ra with
        | cons r1 t =>
          cases t with
          | cons r2 t =>
            cases t
            cases r1
            exact ⟨p, vs, _, _, rfl, rfl, hv, by rw [← rl.len]; exact hl, h0, h1, q _ _ (.lst upd_same (((rl.take _).app (.cons r2 .nil)).app (rl.drop _)))⟩
      · cases h) (fun m hm => by simp at hm; exact hm))⟩
/-- x[i] = v of an own list -/
def fSet : List PyData → List PyData → Option PyData := fun l ds => match ds with
  | [.int k, d] => (ixN l.length k).map fun j => .list (l.set j d)
  | _ => none
/-- the value first, then the index -/
def sPut (i : Nat) (fv fi : SE) : SS := fun ρ => (fv ρ).bind fun d => match ρ[i]? with
  | some (.own (.list l)) => (fi ρ).bind fun k => (fSet l [k, d]).bind fun d' => some (.nx (ρ.set i (.own d')))
  | _ => none
theorem s_put (i : Nat) {tpos : Pos} (he : DX X .val e g) (hi : DX X .val b f) (hN : X.N[i]? = some x := by rfl) (hv : Vis X.env.scope x := by first | exact Or.inl rfl | exact Or.inr (Or.inl rfl) | exact Or.inr (Or.inr rfl)) (hd : (x == ("__debug__" : Str)) = false := by decide)
    (hcd : (x == ("__classdict__" : Str)) = false := by decide)
    (ha : ∀ v, assign (.Subscript (.Name x p1) b tpos) X.env v = (do
      let ov ← holding [v] (eval (.Name x p1) X.env)
      let iv ← holding [v, ov] (eval b X.env)
      standAt tpos
      holding [v, ov, iv] (setItem ov iv v)
      release [v, ov, iv] []) := by intro _; rfl)
    (hs : swapsWithSole [.Subscript (.Name x p1) b tpos] e pos.line X.env = pure false := by rfl) (hw : swappedStores [.Subscript (.Name x p1) b tpos] e X.env = pure none := by rfl)
    (h1 : (assignEach [.Subscript (.Name x p1) b tpos] X.env).map (·.2) = [assign (.Subscript (.Name x p1) b tpos) X.env] := by rfl) : DS X rm (.Assign [.Subscript (.Name x p1) b tpos] e pos) (sPut i g f) :=
  ⟨(ps_asg he.pe (pg_sub (pv i hN hv hd hcd) hi.pe set_list ha) hs hw h1).imp fun D σ H ⟨G0, H0, G, ρ, o, s, e, q⟩ => by
    obtain ⟨d, e1, e⟩ := bind_some e
    split at e
    · rename_i l h
      obtain ⟨k, e2, e⟩ := bind_some e
      obtain ⟨d', e3, e⟩ := bind_some e
      cases e
      refine ⟨G0, H0, G, ρ, d, s, e1, fun G1 H1 v gx r1 => ?_⟩
      have s1 := s.gx' gx
      obtain ⟨p, h1, h2, h3, h4⟩ := s1.own h
      refine ⟨_, h1, G0, H0, G1, ρ, k, s1, e2, fun G2 H2 y gx2 r2 => ?_⟩
      have s2 := s1.gx' gx2
      obtain ⟨p', k1, k2, k3, k4⟩ := s2.own h
      rw [h1] at k1; cases k1
      obtain ⟨vs, hv', rl⟩ := own_list k4
      unfold fSet at e3
      split at e3
      · rename_i kk dd hk
        cases hk
        obtain ⟨j, hj, rfl⟩ := map_some e3
        cases (show Rep X.K G2 (.int kk) y from r2)
        refine ⟨p, vs, kk, j, rfl, rfl, hv', by rw [← rl.len]; exact hj, ?_⟩
        exact q G2 σ _ (gx.g.trans gx2.g) (s2.write h h1 k2 k3 (.lst upd_same (rl.set j (Rep.mono gx2.g r1))))
      · cases e3
    · cases e⟩
end
/-- the length of the script -/
theorem d_lenS {X : Cx} {a : Expr} {f : SE} {p pos : Pos} (ha : DX X .scr a f) (hm : X.mg "len" = none) (hg : Gl X "len" := by rfl) (he : starEach [a] X.env = (false, eval a X.env) :: starEach [] X.env := by rfl) (hpl : (backTo pos (starEach [] X.env)).any (·.1) = false := by rfl) :
    DX X .val (.Call (.Name "len" p) [a] [] pos) (eCall cLen (aCons f aNil)) :=
  ⟨(pe_callB call_len hg hm PySem.boot_len (pa_cons ha.pe pa_nil he) (by decide) (by decide) he hpl).imp fun σ H Q ⟨G0, H0, G, ρ, d, s, ed, q⟩ => by
    obtain ⟨ds, e1, e2⟩ := bind_some ed
    obtain ⟨d1, e3, e4⟩ := bind_some e1
    obtain ⟨_, e5, e6⟩ := bind_some e4
    cases e5
    cases e6
    refine ⟨G0, H0, G, ρ, d1, s, e3, fun G1 H1 v gx r => ?_⟩
    obtain ⟨b, ns, rfl, rfl, hq⟩ := r
    cases e2
    refine ⟨_, _, rfl, .inl ⟨_, hq, rfl⟩, ?_⟩
    rw [List.length_map, ← List.length_map (f := PyData.int)]
    exact q G1 H1 _ gx (.int _)⟩
theorem d_vp {X : Cx} {a : Expr} {f : SE} (h : DX X .val a f) : DX X .par a f := ⟨h.pe.imp fun σ H Q ⟨G0, H0, G, ρ, d, s, ed, q⟩ => ⟨G0, H0, G, ρ, d, s, ed, fun G' H' v x r => q G' H' v x (.val r)⟩⟩
end DV

namespace DV
open PySem L2
/-! ### how the functions on data reckon -/
section
variable {i j : Int} {ρ : Rho} {f g h : SE} {d : PyData} {r : SA} {k n : Nat}
def getS : Rho → Nat → Option Slot
  | [], _ => none
  | s :: _, 0 => some s
  | _ :: r, k + 1 => getS r k
theorem bind_congr1 {α β : Type} {x y : Option α} {f : α → Option β} (h : x = y) : x.bind f = y.bind f := by rw [h]
@[simp] theorem eK_r : eK d ρ = some d := rfl
theorem getS_eq : ∀ (ρ : Rho) (k : Nat), getS ρ k = ρ[k]?
  | [], _ => by simp [getS]
  | s :: _, 0 => rfl
  | s :: r, k + 1 => by
    show getS r k = _
    rw [getS_eq r k]; rfl
@[simp] theorem getS_0 {s : Slot} : getS (s :: ρ) 0 = some s := rfl
@[simp] theorem getS_s {s : Slot} : getS (s :: ρ) (k + 1) = getS ρ k := rfl
@[simp] theorem eV_0 : eV 0 (.val d :: ρ) = some d := rfl
@[simp] theorem eV_s {s : Slot} : eV (k + 1) (s :: ρ) = eV k ρ := rfl
@[simp] theorem eB_0v : eB 0 (.val d :: ρ) = some d := rfl
@[simp] theorem eB_0b : eB 0 (.bor d :: ρ) = some d := rfl
@[simp] theorem eB_0p : eB 0 (.pin d :: ρ) = some d := rfl
@[simp] theorem eB_0o : eB 0 (.own d :: ρ) = some d := rfl
@[simp] theorem eB_s {s : Slot} : eB (k + 1) (s :: ρ) = eB k ρ := rfl
@[simp] theorem eP_0v : eP 0 (.val d :: ρ) = some d := rfl
@[simp] theorem eP_0b : eP 0 (.bor d :: ρ) = some d := rfl
@[simp] theorem eP_s {s : Slot} : eP (k + 1) (s :: ρ) = eP k ρ := rfl
@[simp] theorem eS_0 : eS 0 (.scr d :: ρ) = some d := rfl
@[simp] theorem eS_s {s : Slot} : eS (k + 1) (s :: ρ) = eS k ρ := rfl
@[simp] theorem aNil_r : aNil ρ = some [] := rfl
@[simp] theorem aCons_r : aCons f r ρ = (f ρ).bind fun d => (r ρ).bind fun ds => some (d :: ds) := rfl
@[simp] theorem eOp_r {F : PyData → PyData → Option PyData} : eOp F f g ρ = (f ρ).bind fun x => (g ρ).bind fun y => F x y := rfl
@[simp] theorem eUn_r {F : PyData → Option PyData} : eUn F f ρ = (f ρ).bind F := rfl
@[simp] theorem eCall_r {F : List PyData → Option PyData} : eCall F r ρ = (r ρ).bind F := rfl
@[simp] theorem eTup_r : eTup r ρ = (r ρ).bind fun ds => if ds.length ≤ sizeLine then some (.tuple ds) else none := rfl
@[simp] theorem eLst_r : eLst r ρ = (r ρ).bind fun ds => if ds.length ≤ sizeLine then some (.list ds) else none := rfl
@[simp] theorem eIf_r {t : SB} : eIf t f g ρ = (t ρ).bind fun k => if k = true then f ρ else g ρ := rfl
@[simp] theorem eAnd_r : eAnd f g ρ = (f ρ).bind fun x => (truth x).bind fun k => if k = true then g ρ else some x := rfl
@[simp] theorem eOr_r : eOr f g ρ = (f ρ).bind fun x => (truth x).bind fun k => if k = true then some x else g ρ := rfl
@[simp] theorem eNot_r : eNot f ρ = (f ρ).bind fun x => (truth x).map fun k => .bool !k := rfl
@[simp] theorem eIs_r {T : String} : eIs T f ρ = (f ρ).bind fun d => (isT T d).map .bool := rfl
@[simp] theorem eChain_r {F F' : PyData → PyData → Option PyData} : eChain F F' f g h ρ = (f ρ).bind fun x => (g ρ).bind fun y => (F x y).bind fun z => match z with
  | .bool true => (h ρ).bind fun w => F' y w
  | .bool false => some (.bool false)
  | _ => none := rfl
@[simp] theorem eSl_r {F : PyData → Option Int → Option Int → Option PyData} {a b : SO} : eSl F f a b ρ = (f ρ).bind fun d => (a ρ).bind fun lo => (b ρ).bind fun hi => F d lo hi := rfl
@[simp] theorem oNo_r : oNo ρ = some none := rfl
@[simp] theorem oSo_r : oSo f ρ = (f ρ).bind asI := rfl
@[simp] theorem asI_r : asI (.int i) = some (some i) := rfl
@[simp] theorem bT_r : bT f ρ = (f ρ).bind asB := rfl
@[simp] theorem bV_r : bV f ρ = (f ρ).bind truth := rfl
@[simp] theorem bYes_r : bYes ρ = some true := rfl
@[simp] theorem asB_r {b : Bool} : asB (.bool b) = some b := rfl
@[simp] theorem truth_b {b : Bool} : truth (.bool b) = some b := rfl
@[simp] theorem truth_l {l : List PyData} : truth (.list l) = some (!l.isEmpty) := rfl
@[simp] theorem truth_t {l : List PyData} : truth (.tuple l) = some (!l.isEmpty) := rfl
@[simp] theorem truth_n : truth .none = some false := rfl
@[simp] theorem truth_i : truth (.int i) = some (i != 0) := rfl
variable {t u : SB}
@[simp] theorem bAnd_r : bAnd t u ρ = (t ρ).bind fun k => if k = true then u ρ else some false := rfl
@[simp] theorem bOr_r : bOr t u ρ = (t ρ).bind fun k => if k = true then some true else u ρ := rfl
@[simp] theorem bNot_r : bNot t ρ = (t ρ).map fun k => !k := rfl
@[simp] theorem oAdd_i : oAdd (.int i) (.int j) = some (.int (i + j)) := rfl
@[simp] theorem oSub_i : oSub (.int i) (.int j) = some (.int (i - j)) := rfl
@[simp] theorem oNeg_i : oNeg (.int i) = some (.int (-i)) := rfl
@[simp] theorem oLt_i : oLt (.int i) (.int j) = some (.bool (decide (i < j))) := rfl
@[simp] theorem oLe_i : oLe (.int i) (.int j) = some (.bool (decide (i ≤ j))) := rfl
@[simp] theorem oGt_i : oGt (.int i) (.int j) = some (.bool (decide (j < i))) := rfl
@[simp] theorem oGe_i : oGe (.int i) (.int j) = some (.bool (decide (j ≤ i))) := rfl
@[simp] theorem oMod_i (h : 0 < j) : oMod (.int i) (.int j) = some (.int (i % j)) := if_pos h
@[simp] theorem oFdiv_i (h : 0 < j) (h2 : j < 18446744073709551616) : oFdiv (.int i) (.int j) = some (.int (i / j)) := if_pos ⟨h, h2⟩
theorem oMul_l (h1 : -18446744073709551616 < i) (h2 : i < 18446744073709551616) : oMulS (.int i) (.int j) = some (.int (i * j)) := if_pos (show CMul i j from .inl ⟨h1, h2⟩)
theorem oMul_r (h1 : -18446744073709551616 < j) (h2 : j < 18446744073709551616) : oMulS (.int i) (.int j) = some (.int (i * j)) := if_pos (show CMul i j from .inr ⟨h1, h2⟩)
@[simp] theorem oPow18 : oPow (.int 10) (.int 18) = some (.int 1000000000000000000) := by
  show (if CPow 10 18 then some (PyData.int (10 ^ (18 : Int).toNat)) else none) = _
  rw [if_pos (by decide)]; rfl
@[simp] theorem oPow16 : oPow (.int 10) (.int 16) = some (.int 10000000000000000) := by
  show (if CPow 10 16 then some (PyData.int (10 ^ (16 : Int).toNat)) else none) = _
  rw [if_pos (by decide)]; rfl
@[simp] theorem oPow15 : oPow (.int 10) (.int 15) = some (.int 1000000000000000) := by
  show (if CPow 10 15 then some (PyData.int (10 ^ (15 : Int).toNat)) else none) = _
  rw [if_pos (by decide)]; rfl
@[simp] theorem oPow14 : oPow (.int 10) (.int 14) = some (.int 100000000000000) := by
  show (if CPow 10 14 then some (PyData.int (10 ^ (14 : Int).toNat)) else none) = _
  rw [if_pos (by decide)]; rfl
@[simp] theorem oPow13 : oPow (.int 10) (.int 13) = some (.int 10000000000000) := by
  show (if CPow 10 13 then some (PyData.int (10 ^ (13 : Int).toNat)) else none) = _
  rw [if_pos (by decide)]; rfl
@[simp] theorem oPow12 : oPow (.int 10) (.int 12) = some (.int 1000000000000) := by
  show (if CPow 10 12 then some (PyData.int (10 ^ (12 : Int).toNat)) else none) = _
  rw [if_pos (by decide)]; rfl
@[simp] theorem oPow9 : oPow (.int 10) (.int 9) = some (.int 1000000000) := by
  show (if CPow 10 9 then some (PyData.int (10 ^ (9 : Int).toNat)) else none) = _
  rw [if_pos (by decide)]; rfl
@[simp] theorem oPow8 : oPow (.int 10) (.int 8) = some (.int 100000000) := by
  show (if CPow 10 8 then some (PyData.int (10 ^ (8 : Int).toNat)) else none) = _
  rw [if_pos (by decide)]; rfl
@[simp] theorem oPow7 : oPow (.int 10) (.int 7) = some (.int 10000000) := by
  show (if CPow 10 7 then some (PyData.int (10 ^ (7 : Int).toNat)) else none) = _
  rw [if_pos (by decide)]; rfl
@[simp] theorem oPow6 : oPow (.int 10) (.int 6) = some (.int 1000000) := by
  show (if CPow 10 6 then some (PyData.int (10 ^ (6 : Int).toNat)) else none) = _
  rw [if_pos (by decide)]; rfl
@[simp] theorem cInt_i : cInt [.int i] = some (.int i) := rfl
@[simp] theorem cInt_b {b : Bool} : cInt [.bool b] = some (.int (if b then 1 else 0)) := rfl
@[simp] theorem cAbs_i : cAbs [.int i] = some (.int (if i < 0 then -i else i)) := rfl
@[simp] theorem cMax2_i : cMax2 [.int i, .int j] = some (.int (max i j)) := by
  show some (PyData.int (if j > i then j else i)) = _
  congr 2; split <;> omega
@[simp] theorem cMin2_i : cMin2 [.int i, .int j] = some (.int (min i j)) := by
  show some (PyData.int (if j < i then j else i)) = _
  congr 2; split <;> omega
@[simp] theorem cLen_l {l : List PyData} : cLen [.list l] = some (.int (l.length : Nat)) := rfl
@[simp] theorem cLen_t {l : List PyData} : cLen [.tuple l] = some (.int (l.length : Nat)) := rfl
@[simp] theorem cList_l {l : List PyData} : cList [.list l] = some (.list l) := rfl
@[simp] theorem cList_t {l : List PyData} : cList [.tuple l] = some (.list l) := rfl
@[simp] theorem cSum_i {l : List Int} : cSum [.list (l.map .int)] = some (.int l.sum) := by
  show (intsOf (l.map .int)).map _ = _
  rw [intsOf_map]; rfl
@[simp] theorem isT_int_i : isT "int" (.int i) = some true := rfl
@[simp] theorem isT_bool_i : isT "bool" (.int i) = some false := rfl
@[simp] theorem isT_bool_b {b : Bool} : isT "bool" (.bool b) = some true := rfl
@[simp] theorem isT_int_b {b : Bool} : isT "int" (.bool b) = some true := rfl
@[simp] theorem isT_tuple_t {l : List PyData} : isT "tuple" (.tuple l) = some true := rfl
@[simp] theorem isT_list_l {l : List PyData} : isT "list" (.list l) = some true := rfl
@[simp] theorem oEq_i : oEq (.int i) (.int j) = some (.bool (decide (i = j))) := by
  show (if SeqAt.shaped (.int i) = true ∧ SeqAt.shaped (.int j) = true then some (PyData.bool (PyData.eqv (.int i) (.int j))) else none) = _
  rw [if_pos ⟨rfl, rfl⟩]
  show some (PyData.bool (i == j)) = _
  rw [Bool.beq_eq_decide_eq]
@[simp] theorem oNe_i : oNe (.int i) (.int j) = some (.bool (!decide (i = j))) := by
  show (if SeqAt.shaped (.int i) = true ∧ SeqAt.shaped (.int j) = true then some (PyData.bool (!PyData.eqv (.int i) (.int j))) else none) = _
  rw [if_pos ⟨rfl, rfl⟩]
  show some (PyData.bool (!(i == j))) = _
  rw [Bool.beq_eq_decide_eq]
@[simp] theorem oEq_b {a b : Bool} : oEq (.bool a) (.bool b) = some (.bool (a == b)) := if_pos ⟨rfl, rfl⟩
@[simp] theorem oNe_b {a b : Bool} : oNe (.bool a) (.bool b) = some (.bool (!(a == b))) := if_pos ⟨rfl, rfl⟩
@[simp] theorem oIsN_n : oIsN .none .none = some (.bool true) := rfl
@[simp] theorem oNotN_n : oNotN .none .none = some (.bool false) := rfl
@[simp] theorem oIsN_i : oIsN (.int i) .none = some (.bool false) := rfl
@[simp] theorem oNotN_i : oNotN (.int i) .none = some (.bool true) := rfl
@[simp] theorem oIsB_b {a b : Bool} : oIsB (.bool a) (.bool b) = some (.bool (decide (a = b))) := rfl
@[simp] theorem oNotB_b {a b : Bool} : oNotB (.bool a) (.bool b) = some (.bool (!decide (a = b))) := rfl
/-- an item of data, by a place -/
theorem atI_pos {α : Type} {l : List α} (h0 : 0 ≤ i) : atI l i = l[i.toNat]? := by
  unfold L2.atI ixN
  rw [if_pos h0]
  by_cases h : i < l.length
  · rw [if_pos h]; rfl
  · rw [if_neg h]
    show none = _
    rw [List.getElem?_eq_none (by omega)]
theorem atI_neg {α : Type} {l : List α} (h0 : i < 0) (h1 : -(l.length : Int) ≤ i) : atI l i = l[(i + l.length).toNat]? := by
  unfold L2.atI ixN
  rw [if_neg (by omega), if_pos h1]; rfl
@[simp] theorem oIx_l {l : List PyData} : oIx (.list l) (.int i) = atI l i := rfl
@[simp] theorem oIx_t {l : List PyData} : oIx (.tuple l) (.int i) = atI l i := rfl
@[simp] theorem atI_0 {α : Type} {a : α} {l : List α} : atI (a :: l) 0 = some a := by rw [atI_pos (by decide)]; rfl
@[simp] theorem atI_1 {α : Type} {a b : α} {l : List α} : atI (a :: b :: l) 1 = some b := by rw [atI_pos (by decide)]; rfl
@[simp] theorem atI_2 {α : Type} {a b c : α} {l : List α} : atI (a :: b :: c :: l) 2 = some c := by rw [atI_pos (by decide)]; rfl
@[simp] theorem atI_3 {α : Type} {a b c e : α} {l : List α} : atI (a :: b :: c :: e :: l) 3 = some e := by rw [atI_pos (by decide)]; rfl
theorem atI_lt {α : Type} {l : List α} (h0 : 0 ≤ i) (h1 : i < l.length) : atI l i = some (l[i.toNat]'(by omega)) := by
  rw [atI_pos h0]; exact List.getElem?_eq_getElem (by omega)
theorem atI_ex {α : Type} {l : List α} (h0 : 0 ≤ i) (h1 : i < l.length) : ∃ v, v ∈ l ∧ atI l i = some v := ⟨_, List.getElem_mem _, atI_lt h0 h1⟩
theorem pickI (l : List Int) {i : Int} (h0 : 0 ≤ i) (h1 : i < l.length) : ∃ v, v ∈ l ∧ atI (l.map PyData.int) i = some (.int v) := by
  obtain ⟨v, h2, h3⟩ := atI_ex (l := l.map PyData.int) h0 (by rw [List.length_map]; exact h1)
  obtain ⟨w, h4, rfl⟩ := List.mem_map.mp h2
  exact ⟨w, h4, h3⟩
end
/-! ### statements -/
section
variable {ρ ρ' : Rho} {f g : SS} {e : SE} {t : SB} {k : Nat} {d : PyData} {o : Out}
theorem seq_nx (h : f ρ = some (.nx ρ')) : sSeqn f g ρ = g ρ' := by unfold sSeqn; rw [h]; rfl
theorem seq_rt (h : f ρ = some (.rt d)) : sSeqn f g ρ = some (.rt d) := by unfold sSeqn; rw [h]; rfl
theorem seq_ct (h : f ρ = some (.ct ρ')) : sSeqn f g ρ = some (.ct ρ') := by unfold sSeqn; rw [h]; rfl
theorem seq_bk (h : f ρ = some (.bk ρ')) : sSeqn f g ρ = some (.bk ρ') := by unfold sSeqn; rw [h]; rfl
@[simp] theorem sSeqn_r : sSeqn f g ρ = (f ρ).bind fun o => match o with | .nx ρ' => g ρ' | o => some o := rfl
@[simp] theorem sNext_r : sNext ρ = some (.nx ρ) := rfl
@[simp] theorem sBrk_r : sBrk ρ = some (.bk ρ) := rfl
@[simp] theorem sCnt_r : sCnt ρ = some (.ct ρ) := rfl
@[simp] theorem sRetN_r : sRetN ρ = some (.rt .none) := rfl
@[simp] theorem sExpr_r : sExpr e ρ = (e ρ).bind fun _ => some (.nx ρ) := rfl
@[simp] theorem sRet_r : sRet e ρ = (e ρ).bind fun d => some (.rt d) := rfl
@[simp] theorem sRetOwn_r : sRetOwn k ρ = (match getS ρ k with | some (.own d) => some (.rt d) | _ => none) := by rw [getS_eq]; rfl
@[simp] theorem sIf_r : sIf t f g ρ = (t ρ).bind fun k => if k = true then f ρ else g ρ := rfl
@[simp] theorem sSet_r : sSet k e ρ = (e ρ).bind fun d => if k < ρ.length then some (.nx (ρ.set k (.val d))) else none := rfl
@[simp] theorem sOwn_r : sOwn k e ρ = (e ρ).bind fun d => if k < ρ.length then some (.nx (ρ.set k (.own d))) else none := rfl
@[simp] theorem sAsg_r {g : SG} : sAsg e g ρ = (e ρ).bind fun d => (g d ρ).bind fun ρ' => some (.nx ρ') := rfl
@[simp] theorem gV_r : gV k d ρ = if k < ρ.length then some (ρ.set k (.val d)) else none := rfl
@[simp] theorem gT_r {n : Nat} {r : SGs} {ds : List PyData} : gT n r (.tuple ds) ρ = if ds.length = n then r ds ρ else none := rfl
@[simp] theorem gsNil_r : gsNil [] ρ = some ρ := rfl
@[simp] theorem gsCons_r {g : SG} {r : SGs} {ds : List PyData} : gsCons g r (d :: ds) ρ = (g d ρ).bind fun ρ' => r ds ρ' := rfl
@[simp] theorem sFz_r : sFz k f ρ = (match getS ρ k with | some (.own d) => f (ρ.set k (.val d)) | some (.val _) => f ρ | _ => none) := by rw [getS_eq]; rfl
@[simp] theorem sAug_r {F : PyData → PyData → Option PyData} : sAug k F e ρ = (eV k ρ).bind fun x => (e ρ).bind fun y => (F x y).bind fun d => some (.nx (ρ.set k (.val d))) := rfl
@[simp] theorem addI_r {i j : Int} : addI (.int i) (.int j) = some (.int (i + j)) := rfl
@[simp] theorem subI_r {i j : Int} : subI (.int i) (.int j) = some (.int (i - j)) := rfl
@[simp] theorem sFor_r {fi : SI} {g : SG} {b : SS} : sFor fi g b ρ = (fi ρ).bind fun ds => forGo g b ds ρ := rfl
@[simp] theorem sSeq_r : sSeq e ρ = (e ρ).bind itemsOf := rfl
@[simp] theorem sArgs_r {F : List PyData → Option (List PyData)} {r : SA} : sArgs F r ρ = (r ρ).bind F := rfl
@[simp] theorem itemsOf_l {l : List PyData} : itemsOf (.list l) = some l := rfl
@[simp] theorem itemsOf_t {l : List PyData} : itemsOf (.tuple l) = some l := rfl
@[simp] theorem sMut_r {F : List PyData → List PyData → Option PyData} {r : SA} : sMut F k r ρ = (match getS ρ k with | some (.own (.list l)) => (r ρ).bind fun ds => (F l ds).bind fun d => some (.nx (ρ.set k (.own d))) | _ => none) := by rw [getS_eq]; rfl
@[simp] theorem fApp_r {l : List PyData} : fApp l [d] = if l.length < sizeLine then some (.list (l ++ [d])) else none := rfl
@[simp] theorem slotsOf_nil : slotsOf [] [] = [] := rfl
@[simp] theorem slotsOf_val {ms : List Md} {ds : List PyData} : slotsOf (.val :: ms) (d :: ds) = .val d :: slotsOf ms ds := rfl
@[simp] theorem slotsOf_bor {ms : List Md} {ds : List PyData} : slotsOf (.bor :: ms) (d :: ds) = .bor d :: slotsOf ms ds := rfl
@[simp] theorem slotsOf_scr {ms : List Md} {ds : List PyData} : slotsOf (.scr :: ms) (d :: ds) = .scr d :: slotsOf ms ds := rfl
/-- a def's value: from how its body ends -/
theorem runF_rt {n : Nat} {rm : Md} {ms : List Md} {ds : List PyData} (hl : ds.length = ms.length) (h : f (slotsOf ms ds ++ List.replicate (n - ds.length) .un) = some (.rt d)) : runF n rm ms f ds = some d := by
  unfold runF
  rw [if_pos hl, h]
  cases rm <;> rfl
theorem size_le {n : Nat} (h : n ≤ 16777216) : n ≤ sizeLine := by rw [sizeLine_eq]; exact h
/-! ### loops -/
/-- a loop that runs to its end: an invariant by the turn -/
theorem for_all {g : SG} {b : SS} {ds : List PyData} (I : Nat → Rho → Prop) (h0 : I 0 ρ)
    (turn : ∀ i d ρ, ds[i]? = some d → I i ρ → ∃ ρ1 ρ', g d ρ = some ρ1 ∧ (b ρ1 = some (.nx ρ') ∨ b ρ1 = some (.ct ρ')) ∧ I (i + 1) ρ') : ∃ ρ', forGo g b ds ρ = some (.nx ρ') ∧ I ds.length ρ' := by
  have key : ∀ (rest : List PyData) (i : Nat) (ρ : Rho), i ≤ ds.length → ds.drop i = rest → I i ρ → ∃ ρ', forGo g b rest ρ = some (.nx ρ') ∧ I ds.length ρ' := by
    intro rest
    induction rest with
    | nil =>
      intro i ρ hle hd hi
      have : ds.length ≤ i := List.drop_eq_nil_iff.mp hd
      have e : i = ds.length := by omega
      exact ⟨ρ, rfl, by rw [← e]; exact hi⟩
    | cons d r ih =>
      intro i ρ hle hd hi
      have hlt : i < ds.length := by
        have := congrArg List.length hd
        rw [List.length_drop, List.length_cons] at this
        omega
      have h1 : ds[i]? = some d := by
        rw [← List.head?_drop, hd]; rfl
      obtain ⟨ρ1, ρ', e1, e2, e3⟩ := turn i d ρ h1 hi
      have h2 : ds.drop (i + 1) = r := by rw [← List.tail_drop, hd]; rfl
      obtain ⟨ρ2, e4, e5⟩ := ih (i + 1) ρ' hlt h2 e3
      refine ⟨ρ2, ?_, e5⟩
      unfold forGo
      rw [e1]
      rcases e2 with e2 | e2
      · show (b ρ1).bind _ = _
        rw [e2]; exact e4
      · show (b ρ1).bind _ = _
        rw [e2]; exact e4
  exact key ds 0 ρ (Nat.zero_le _) rfl h0
end
/-! ### == of plain data (no bools, no dicts) -/
mutual
def clean : Nat → PyData → Bool
  | _, .none => true
  | _, .int _ => true
  | _, .str x => PyData.strOk x
  | n + 1, .list l => cleanA n l
  | n + 1, .tuple l => cleanA n l
  | _, _ => false
def cleanA : Nat → List PyData → Bool
  | _, [] => true
  | n, d :: r => clean n d && cleanA n r
end
mutual
theorem clean_lay : ∀ (n : Nat) (d : PyData), clean n d = true → d.canLay0 = true ∧ d.depth ≤ n
  | _, .none, _ => ⟨by simp [PyData.canLay0], by simp [PyData.depth]⟩
  | _, .int _, _ => ⟨by simp [PyData.canLay0], by simp [PyData.depth]⟩
  | _, .bool _, h => by simp [clean] at h
  | _, .str x, h => ⟨by simpa [PyData.canLay0, clean] using h, by simp [PyData.depth]⟩
  | 0, .list l, h => by simp [clean] at h
  | 0, .tuple l, h => by simp [clean] at h
  | n + 1, .list l, h => by
    obtain ⟨h1, h2⟩ := cleanA_lay n l (by simpa [clean] using h)
    exact ⟨by simpa [PyData.canLay0] using h1, by simpa [PyData.depth] using h2⟩
  | n + 1, .tuple l, h => by
    obtain ⟨h1, h2⟩ := cleanA_lay n l (by simpa [clean] using h)
    exact ⟨by simpa [PyData.canLay0] using h1, by simpa [PyData.depth] using h2⟩
  | _, .dict _, h => by simp [clean] at h
theorem cleanA_lay : ∀ (n : Nat) (l : List PyData), cleanA n l = true → PyData.canLayAll0 l = true ∧ PyData.depthAll l ≤ n
  | _, [], _ => ⟨by simp [PyData.canLayAll0], by simp [PyData.depthAll]⟩
  | n, d :: r, h => by
    have h' : clean n d = true ∧ cleanA n r = true := by simpa [cleanA] using h
    obtain ⟨a1, a2⟩ := clean_lay n d h'.1
    obtain ⟨b1, b2⟩ := cleanA_lay n r h'.2
    exact ⟨by simp [PyData.canLayAll0, a1, b1], by simp only [PyData.depthAll]; omega⟩
end
mutual
theorem eqv_iff : ∀ (n : Nat) (d e : PyData), clean n d = true → clean n e = true → (PyData.eqv d e = true ↔ d = e)
  | _, .none, .none, _, _ => by simp [PyData.eqv]
  | _, .none, .int _, _, _ => by simp [PyData.eqv]
  | _, .none, .str _, _, _ => by simp [PyData.eqv]
  | _, .none, .list _, _, _ => by simp [PyData.eqv]
  | _, .none, .tuple _, _, _ => by simp [PyData.eqv]
  | _, .int _, .none, _, _ => by simp [PyData.eqv]
  | _, .int _, .int _, _, _ => by simp [PyData.eqv]
  | _, .int _, .str _, _, _ => by simp [PyData.eqv]
  | _, .int _, .list _, _, _ => by simp [PyData.eqv]
  | _, .int _, .tuple _, _, _ => by simp [PyData.eqv]
  | _, .str _, .none, _, _ => by simp [PyData.eqv]
  | _, .str _, .int _, _, _ => by simp [PyData.eqv]
  | _, .str _, .str _, _, _ => by simp [PyData.eqv]
  | _, .str _, .list _, _, _ => by simp [PyData.eqv]
  | _, .str _, .tuple _, _, _ => by simp [PyData.eqv]
  | _, .list _, .none, _, _ => by simp [PyData.eqv]
  | _, .list _, .int _, _, _ => by simp [PyData.eqv]
  | _, .list _, .str _, _, _ => by simp [PyData.eqv]
  | 0, .list _, .list _, h, _ => by simp [clean] at h
  | n + 1, .list l, .list k, h, h2 => by
    have := eqvA_iff n l k (by simpa [clean] using h) (by simpa [clean] using h2)
    simp only [PyData.eqv, this, PyData.list.injEq]
  | _, .list _, .tuple _, _, _ => by simp [PyData.eqv]
  | _, .tuple _, .none, _, _ => by simp [PyData.eqv]
  | _, .tuple _, .int _, _, _ => by simp [PyData.eqv]
  | _, .tuple _, .str _, _, _ => by simp [PyData.eqv]
  | _, .tuple _, .list _, _, _ => by simp [PyData.eqv]
  | 0, .tuple _, .tuple _, h, _ => by simp [clean] at h
  | n + 1, .tuple l, .tuple k, h, h2 => by
    have := eqvA_iff n l k (by simpa [clean] using h) (by simpa [clean] using h2)
    simp only [PyData.eqv, this, PyData.tuple.injEq]
  | _, .bool _, _, h, _ => by simp [clean] at h
  | _, .dict _, _, h, _ => by simp [clean] at h
  | _, _, .bool _, _, h => by simp [clean] at h
  | _, _, .dict _, _, h => by simp [clean] at h
theorem eqvA_iff : ∀ (n : Nat) (l k : List PyData), cleanA n l = true → cleanA n k = true → (PyData.eqvAll l k = true ↔ l = k)
  | _, [], [], _, _ => by simp [PyData.eqvAll]
  | _, [], _ :: _, _, _ => by simp [PyData.eqvAll]
  | _, _ :: _, [], _, _ => by simp [PyData.eqvAll]
  | n, d :: l, e :: k, h, h2 => by
    have h' : clean n d = true ∧ cleanA n l = true := by simpa [cleanA] using h
    have h2' : clean n e = true ∧ cleanA n k = true := by simpa [cleanA] using h2
    have a := eqv_iff n d e h'.1 h2'.1
    have b := eqvA_iff n l k h'.2 h2'.2
    simp only [PyData.eqvAll, Bool.and_eq_true, a, b, List.cons.injEq]
end
theorem clean_shaped {n : Nat} {d : PyData} (hn : n ≤ 64) (h : clean n d = true) : SeqAt.shaped d = true := by
  obtain ⟨h1, h2⟩ := clean_lay n d h
  unfold SeqAt.shaped
  rw [h1, Bool.true_and]
  exact decide_eq_true (by omega)
theorem oEq_c {d e : PyData} (h1 : clean 9 d = true) (h2 : clean 9 e = true) : oEq d e = some (.bool (PyData.eqv d e)) := if_pos ⟨clean_shaped (by decide) h1, clean_shaped (by decide) h2⟩
theorem oNe_c {d e : PyData} (h1 : clean 9 d = true) (h2 : clean 9 e = true) : oNe d e = some (.bool (!PyData.eqv d e)) := if_pos ⟨clean_shaped (by decide) h1, clean_shaped (by decide) h2⟩
theorem oEq_self {d : PyData} (h1 : clean 9 d = true) : oEq d d = some (.bool true) := by rw [oEq_c h1 h1, (eqv_iff 9 d d h1 h1).mpr rfl]
theorem oNe_self {d : PyData} (h1 : clean 9 d = true) : oNe d d = some (.bool false) := by rw [oNe_c h1 h1, (eqv_iff 9 d d h1 h1).mpr rfl]; rfl
theorem eqv_dec {d e : PyData} (h1 : clean 9 d = true) (h2 : clean 9 e = true) (c : Prop) [Decidable c] (h : d = e ↔ c) : PyData.eqv d e = decide c := by
  have := eqv_iff 9 d e h1 h2
  by_cases q : c
  · rw [decide_eq_true q]; exact this.mpr (h.mpr q)
  · rw [decide_eq_false q]
    cases z : PyData.eqv d e with
    | false => rfl
    | true => exact absurd (h.mp (this.mp z)) q
/-- a rectangle -/
abbrev rD (x y w h : Int) : PyData := .tuple [.int x, .int y, .int w, .int h]
theorem clean_r {n : Nat} (x y w h : Int) : clean (n + 1) (rD x y w h) = true := by simp [clean, cleanA]
theorem oEq_r {x y w h x' y' w' h' : Int} : oEq (rD x y w h) (rD x' y' w' h') = some (.bool (decide (x = x' ∧ y = y' ∧ w = w' ∧ h = h'))) := by
  rw [oEq_c (clean_r ..) (clean_r ..), eqv_dec (clean_r ..) (clean_r ..) (x = x' ∧ y = y' ∧ w = w' ∧ h = h') (by simp)]
theorem oNe_r {x y w h x' y' w' h' : Int} : oNe (rD x y w h) (rD x' y' w' h') = some (.bool (!decide (x = x' ∧ y = y' ∧ w = w' ∧ h = h'))) := by
  rw [oNe_c (clean_r ..) (clean_r ..), eqv_dec (clean_r ..) (clean_r ..) (x = x' ∧ y = y' ∧ w = w' ∧ h = h') (by simp)]
/-! ### comprehensions over encoded lists -/
section
variable {ρ : Rho} {g : SG} {t : SB} {e : SE} {α : Type}
@[simp] theorem eLc_r {fi : SI} {vs : List Nat} : eLc fi g t e vs ρ = (fi ρ).bind fun ds => (lcGo g t e (wipeR ρ vs) ds).bind fun ys => if ys.length ≤ sizeLine then some (.list ys) else none := rfl
@[simp] theorem wipeR_nil : wipeR ρ [] = ρ := rfl
@[simp] theorem wipeR_cons {v : Nat} {vs : List Nat} : wipeR ρ (v :: vs) = (wipeR ρ vs).set v .un := rfl
theorem lcGo_filter (enc f : α → PyData) (p : α → Bool) : ∀ (xs : List α), (∀ a ∈ xs, ∃ ρ1, g (enc a) ρ = some ρ1 ∧ t ρ1 = some (p a) ∧ (p a = true → e ρ1 = some (f a))) → lcGo g t e ρ (xs.map enc) = some ((xs.filter p).map f)
  | [], _ => rfl
  | a :: r, h => by
    obtain ⟨ρ1, h1, h2, h3⟩ := h a List.mem_cons_self
    have ih := lcGo_filter enc f p r fun b hb => h b (List.mem_cons_of_mem _ hb)
    show (g (enc a) ρ).bind _ = _
    rw [h1]
    show (t ρ1).bind _ = _
    rw [h2]
    cases hp : p a with
    | true =>
      show (e ρ1).bind _ = _
      rw [h3 hp]
      show (lcGo g t e ρ (r.map enc)).bind _ = _
      rw [ih, List.filter_cons_of_pos hp]; rfl
    | false =>
      show lcGo g t e ρ (r.map enc) = _
      rw [ih, List.filter_cons_of_neg (by rw [hp]; exact Bool.false_ne_true)]
theorem lcGo_map (enc f : α → PyData) (xs : List α) (h : ∀ a ∈ xs, ∃ ρ1, g (enc a) ρ = some ρ1 ∧ t ρ1 = some true ∧ e ρ1 = some (f a)) : lcGo g t e ρ (xs.map enc) = some (xs.map f) := by
  have := lcGo_filter (ρ := ρ) (g := g) (t := t) (e := e) enc f (fun _ => true) xs fun a ha => by
    obtain ⟨ρ1, h1, h2, h3⟩ := h a ha
    exact ⟨ρ1, h1, h2, fun _ => h3⟩
  rw [this]
  congr 2
  exact List.filter_eq_self.mpr fun _ _ => rfl
/-- a part of a list -/
def cutG (xs : List α) (lo hi : Option Int) : List α := (xs.drop (HT.sIx xs.length 0 lo)).take (HT.sIx xs.length xs.length hi - HT.sIx xs.length 0 lo)
theorem cutD_map (f : α → PyData) (xs : List α) (lo hi : Option Int) : cutD (xs.map f) lo hi = (cutG xs lo hi).map f := by
  unfold cutD cutG
  rw [List.length_map, List.map_take, List.map_drop]
theorem cutG_len (xs : List α) {i j : Int} (h0 : 0 ≤ i) (h1 : i ≤ j) : (cutG xs (some i) (some j)).length ≤ (j - i).toNat := by
  unfold cutG
  obtain ⟨a, rfl⟩ := Int.eq_ofNat_of_zero_le h0
  obtain ⟨b, rfl⟩ := Int.eq_ofNat_of_zero_le (Int.le_trans h0 h1)
  rw [HT.sIx_nat, HT.sIx_nat, List.length_take, List.length_drop]
  omega
@[simp] theorem oSlL_l {l : List PyData} {lo hi : Option Int} : oSlL (.list l) lo hi = some (.list (cutD l lo hi)) := rfl
@[simp] theorem oSl_l {l : List PyData} {lo hi : Option Int} : oSl (.list l) lo hi = some (.list (cutD l lo hi)) := rfl
@[simp] theorem rng1_r {j : Int} (h1 : -4611686018427387904 ≤ j) (h2 : j < 4611686018427387904) : rng1 [.int j] = some (rangeD 0 j.toNat) := if_pos ⟨by omega, by omega⟩
@[simp] theorem rng2_r {i j : Int} (h1 : -4611686018427387904 ≤ i) (h2 : i < 4611686018427387904) (h3 : -4611686018427387904 ≤ j) (h4 : j < 4611686018427387904) : rng2 [.int i, .int j] = some (rangeD i (j - i).toNat) := if_pos ⟨by omega, by omega, by omega, by omega⟩
theorem rangeD_map (lo : Int) (n : Nat) : rangeD lo n = ((List.range n).map fun i : Nat => lo + (i : Int)).map .int := by
  unfold rangeD; rw [List.map_map]; rfl
end
/-- rectangles, encoded -/
abbrev R4 := Int × Int × Int × Int
def encR (r : R4) : PyData := rD r.1 r.2.1 r.2.2.1 r.2.2.2
theorem cleanA_map {α : Type} {n : Nat} {f : α → PyData} (h : ∀ a, clean n (f a) = true) (l : List α) : cleanA n (l.map f) = true := by
  induction l with
  | nil => simp [cleanA]
  | cons a r ih => simp [cleanA, h, ih]
theorem clean_rs (l : List R4) : clean 9 (.list (l.map encR)) = true := by
  show cleanA 8 _ = true
  exact cleanA_map (fun a => clean_r ..) l
theorem encR_inj {a b : R4} (h : encR a = encR b) : a = b := by
  simp [encR] at h
  ext <;> simp [h]
theorem map_inj {α : Type} {f : α → PyData} (h : ∀ {a b}, f a = f b → a = b) : ∀ {l k : List α}, l.map f = k.map f → l = k
  | [], [], _ => rfl
  | [], _ :: _, e => by simp at e
  | _ :: _, [], e => by simp at e
  | a :: l, b :: k, e => by
    simp only [List.map_cons, List.cons.injEq] at e
    rw [h e.1, map_inj h e.2]
theorem oEq_rs (l k : List R4) : oEq (.list (l.map encR)) (.list (k.map encR)) = some (.bool (decide (l = k))) := by
  rw [oEq_c (clean_rs l) (clean_rs k), eqv_dec (clean_rs l) (clean_rs k) (l = k)]
  simp only [PyData.list.injEq]
  exact ⟨fun h => map_inj encR_inj h, fun h => by rw [h]⟩
theorem oNe_rs (l k : List R4) : oNe (.list (l.map encR)) (.list (k.map encR)) = some (.bool (!decide (l = k))) := by
  rw [oNe_c (clean_rs l) (clean_rs k), eqv_dec (clean_rs l) (clean_rs k) (l = k)]
  simp only [PyData.list.injEq]
  exact ⟨fun h => map_inj encR_inj h, fun h => by rw [h]⟩
end DV

namespace DV
open PySem L2 PySem.Spec PyProof.Rows
section
variable {X : Cx} {K : PySem.W.Frag} {a b e : Expr} {f g fe : SE} {rm : Md} {x : Str} {pos p1 apos cpos : Pos}
/-! ### in -/
theorem op_inA (hu : X.A.units + 65 < cLine) : OpR X (compareOp .In) (fun x y H Q => (∃ (c : Nat) (z : Str), x = .str ⟨#[c]⟩ ∧ y = .str z ∧ Q (.bl (decide (c ∈ z.cps.toList))) H) ∨ rInD X.K x y H Q) := OpR.or op_in_sign (op_inD hu)
theorem op_notInA (hu : X.A.units + 65 < cLine) : OpR X (compareOp .NotIn) (fun x y H Q => (∃ (c : Nat) (z : Str), x = .str ⟨#[c]⟩ ∧ y = .str z ∧ Q (.bl (!decide (c ∈ z.cps.toList))) H) ∨ rNotInD X.K x y H Q) := OpR.or op_notIn_sign (op_notInD hu)
theorem units65 {k : Nat} {A : Around} (r : Room k A) : A.units + 65 < cLine := by have := r.un; omega
def oIn (a b : PyData) : Option PyData := match b with
  | .list ds => if SeqAt.shaped a = true ∧ SeqAt.shaped (.list ds) = true then some (.bool (ds.any fun z => PyData.eqv z a)) else none
  | b => oInS a b
def oNotIn (a b : PyData) : Option PyData := match b with
  | .list ds => if SeqAt.shaped a = true ∧ SeqAt.shaped (.list ds) = true then some (.bool (!ds.any fun z => PyData.eqv z a)) else none
  | b => oNotInS a b
theorem opf_in {X : Cx} : OpF X.K .val (fun x y H Q => (∃ (c : Nat) (z : Str), x = .str ⟨#[c]⟩ ∧ y = .str z ∧ Q (.bl (decide (c ∈ z.cps.toList))) H) ∨ rInD X.K x y H Q) oIn := fun G H d1 d2 d x y Q e r1 r2 h q => by
  unfold oIn at h
  split at h
  · obtain ⟨⟨c1, c2⟩, rfl⟩ := if_some h
    exact .inr ⟨d1, _, r1.dp e (SeqAt.canLay_of_shaped c1), r2.dp e (SeqAt.canLay_of_shaped c2), c1, c2, q G H _ (Gx.refl e) fun _ => .bl _⟩
  · exact .inl (opf_inS G H d1 d2 d x y Q e r1 r2 h q)
theorem opf_notIn {X : Cx} : OpF X.K .val (fun x y H Q => (∃ (c : Nat) (z : Str), x = .str ⟨#[c]⟩ ∧ y = .str z ∧ Q (.bl (!decide (c ∈ z.cps.toList))) H) ∨ rNotInD X.K x y H Q) oNotIn := fun G H d1 d2 d x y Q e r1 r2 h q => by
  unfold oNotIn at h
  split at h
  · obtain ⟨⟨c1, c2⟩, rfl⟩ := if_some h
    exact .inr ⟨d1, _, r1.dp e (SeqAt.canLay_of_shaped c1), r2.dp e (SeqAt.canLay_of_shaped c2), c1, c2, q G H _ (Gx.refl e) fun _ => .bl _⟩
  · exact .inl (opf_notInS G H d1 d2 d x y Q e r1 r2 h q)
/-! ### x[i] += v of an own list -/
def rGetL : V → V → Hp → VK → Prop := fun o i H Q => ∃ p xs k v, o = .ref p ∧ i = .int k ∧ H p = some (.lst xs) ∧ atI xs k = some v ∧ Q v H
theorem get_list : PGet X rGetL := by
  intro pins s σ H x y v u Q I rx ry h
  obtain ⟨p, xs, i, z, rfl, rfl, hq, he, q⟩ := h
  cases rx
  obtain ⟨t, rfl⟩ := ry
  obtain ⟨its, r, pl, hz⟩ := I.list (.inl (.inl hq))
  obtain ⟨j, h1, h2, h3, h4, h5⟩ := atI_get he
  obtain ⟨w, ew, rw'⟩ := r.get h2
  have hl := r.length
  have hn := line63
  have fin : EP X pins σ Q w s := ⟨z, H, I, rw', q⟩
  by_cases h0 : 0 ≤ i
  · have hj : i.toNat = j := by
      rw [seqIndex_of h0 h5] at h1
      exact Option.some.inj h1
    exact wpAny_getItem_list pl.isList h0 (by omega) (by rw [hj]; simpa using ew) fin
  · have hj : (i + (its.toArray.size : Int)).toNat = j := by
      rw [seqIndex_neg (by omega) h4] at h1
      rw [List.size_toArray, ← hl]
      exact Option.some.inj h1
    exact wpAny_getItem_list_neg pl.isList (by omega) (by rw [List.size_toArray] <;> omega) (by omega) (by rw [hj]; simpa using ew) fin
def sPutOp (i : Nat) (F : Int → Int → Int) (fi fv : SE) : SS := fun ρ => match ρ[i]? with
  | some (.own (.list l)) => (fi ρ).bind fun k => match k with
    | .int k => (atI l k).bind fun x => match x with
      | .int x => (fv ρ).bind fun y => match y with
        | .int y => (ixN l.length k).map fun j => .nx (ρ.set i (.own (.list (l.set j (.int (F x y))))))
        | _ => none
      | _ => none
    | _ => none
  | _ => none
theorem atI_RepA {K : PySem.W.Frag} {G : Hp} {ds : List PyData} {vs : List V} (r : RepA K G ds vs) {k : Int} {d : PyData} (h : atI ds k = some d) : ∃ v, atI vs k = some v ∧ Rep K G d v := by
  unfold atI at h ⊢
  rw [← r.len]
  cases e : ixN ds.length k with
  | none => rw [e] at h; cases h
  | some j =>
    rw [e] at h
    obtain ⟨v, h1, h2⟩ := r.get h
    exact ⟨v, h1, h2⟩
theorem s_putOp (i : Nat) {op : Operator} {F : Int → Int → Int} {tpos : Pos} (hp : PIp X op (ipI F)) (he : DX X .val e g) (hi : DX X .val b f) (hN : X.N[i]? = some x := by rfl) (hv : Vis X.env.scope x := by first | exact Or.inl rfl | exact Or.inr (Or.inl rfl) | exact Or.inr (Or.inr rfl)) (hd : (x == ("__debug__" : Str)) = false := by decide)
    (hcd : (x == ("__classdict__" : Str)) = false := by decide)
    (ha : ∀ ov iv new, augStore b ov iv new = (do holding [new, ov, iv] (setItem ov iv new); release [new, ov, iv] []; pure .next) := by intros; rfl) :
    DS X rm (.AugAssign (.Subscript (.Name x p1) b tpos) op e pos) (sPutOp i F f g) :=
  ⟨(ps_augS (pv i hN hv hd hcd) hi.pe get_list he.pe hp set_list ha).imp fun D σ H ⟨G0, H0, G, ρ, o, s, ed, q⟩ => by
    unfold sPutOp at ed
    split at ed
    · rename_i l h
      obtain ⟨k, e2, ed⟩ := bind_some ed
      split at ed
      · rename_i kk
        obtain ⟨x0, e3, ed⟩ := bind_some ed
        split at ed
        · rename_i xx
          obtain ⟨y0, e4, ed⟩ := bind_some ed
          split at ed
          · rename_i yy
            obtain ⟨j, hj, rfl⟩ := map_some ed
            obtain ⟨p, h1, h2, h3, h4⟩ := s.own h
            refine ⟨_, h1, G0, H0, G, ρ, _, s, e2, fun G1 H1 i1 gx1 r1 => ?_⟩
            have s1 := s.gx' gx1
            obtain ⟨p1', k1, k2, k3, k4⟩ := s1.own h
            rw [h1] at k1; cases k1
            obtain ⟨vs, hv', rl⟩ := own_list k4
            cases (show Rep X.K G1 (.int kk) i1 from r1)
            obtain ⟨v1, hv1, rv1⟩ := atI_RepA rl e3
            cases rv1
            refine ⟨p, vs, kk, _, rfl, rfl, hv', hv1, G0, H0, G1, ρ, _, s1, e4, fun G2 H2 y2 gx2 r2 => ?_⟩
            have s2 := s1.gx' gx2
            obtain ⟨p2, m1, m2, m3, m4⟩ := s2.own h
            rw [h1] at m1; cases m1
            obtain ⟨vs2, hv2, rl2⟩ := own_list m4
            cases (show Rep X.K G2 (.int yy) y2 from r2)
            refine ⟨xx, yy, rfl, rfl, p, vs2, kk, j, rfl, rfl, hv2, by rw [← rl2.len]; exact hj, ?_⟩
            exact q G2 σ _ (gx1.g.trans gx2.g) (s2.write h h1 m2 m3 (.lst upd_same (rl2.set j (.int _))))
          · cases ed
        · cases ed
      · cases ed
    · cases ed⟩
end
@[simp] theorem sPutOp_r {F : Int → Int → Int} {f g : SE} {k : Nat} {ρ : Rho} : sPutOp k F f g ρ = (match getS ρ k with
  | some (.own (.list l)) => (f ρ).bind fun k' => match k' with
    | .int k' => (atI l k').bind fun x => match x with
      | .int x => (g ρ).bind fun y => match y with
        | .int y => (ixN l.length k').map fun j => .nx (ρ.set k (.own (.list (l.set j (.int (F x y))))))
        | _ => none
      | _ => none
    | _ => none
  | _ => none) := by rw [getS_eq]; rfl
/-! ### lists of ints -/
theorem clean_is (l : List Int) : clean 9 (.list (l.map .int)) = true := by
  show cleanA 8 _ = true
  exact cleanA_map (fun a => rfl) l
theorem int_inj {a b : Int} (h : PyData.int a = .int b) : a = b := by cases h; rfl
theorem oEq_is (l k : List Int) : oEq (.list (l.map .int)) (.list (k.map .int)) = some (.bool (decide (l = k))) := by
  rw [oEq_c (clean_is l) (clean_is k), eqv_dec (clean_is l) (clean_is k) (l = k)]
  simp only [PyData.list.injEq]
  exact ⟨fun h => map_inj int_inj h, fun h => by rw [h]⟩
theorem oNe_is (l k : List Int) : oNe (.list (l.map .int)) (.list (k.map .int)) = some (.bool (!decide (l = k))) := by
  rw [oNe_c (clean_is l) (clean_is k), eqv_dec (clean_is l) (clean_is k) (l = k)]
  simp only [PyData.list.injEq]
  exact ⟨fun h => map_inj int_inj h, fun h => by rw [h]⟩
theorem any_int (i : Int) : ∀ l : List Int, ((l.map PyData.int).any fun z => PyData.eqv z (.int i)) = decide (i ∈ l)
  | [] => rfl
  | a :: r => by
    rw [List.map_cons, List.any_cons, any_int i r]
    by_cases h : a = i
    · subst h; simp [PyData.eqv]
    · have h' : ¬ i = a := fun e => h e.symm
      simp [PyData.eqv, h, h', List.mem_cons]
theorem oIn_is (i : Int) (l : List Int) : oIn (.int i) (.list (l.map .int)) = some (.bool (decide (i ∈ l))) := by
  unfold oIn
  simp only []
  rw [if_pos ⟨rfl, clean_shaped (by decide) (clean_is l)⟩, any_int]
theorem oNotIn_is (i : Int) (l : List Int) : oNotIn (.int i) (.list (l.map .int)) = some (.bool (!decide (i ∈ l))) := by
  unfold oNotIn
  simp only []
  rw [if_pos ⟨rfl, clean_shaped (by decide) (clean_is l)⟩, any_int]
/-! ### a function on data that nothing unfolds -/
theorem box_ex {α : Type} (a : α) : ∃ b, b = a := ⟨a, rfl⟩
noncomputable def box {α : Type} (a : α) : α := Classical.choose (box_ex a)
theorem box_eq {α : Type} (a : α) : box a = a := Classical.choose_spec (box_ex a)
theorem box_rt {n : Nat} {rm : Md} {ms : List Md} {b : SS} {ds : List PyData} {d : PyData} (h1 : ds.length = ms.length) (h2 : b (slotsOf ms ds ++ List.replicate (n - ds.length) .un) = some (.rt d)) : box (runF n rm ms b) ds = some d := by
  rw [box_eq]; exact runF_rt h1 h2
theorem fn_okB {P : Program} {w : World} {K : PySem.W.Frag} {mg : Str → Option Value} {base : Heap} {x qual : Str} {st : Stmt} {f : Addr} {fd : FuncData} {N ps : List Str} {k n : Nat} {ms : List Md} {rm : Md} {b : SS} (F : Fun K x qual st f fd) (S : FnScope N ps (defScope st))
    (hm : ms.length = ps.length) (hn : N.length = n) (am : ArgMd ms)
    (body : ∀ (cdv : Value) (A : Around) (outer : List Env) (s : Shared) (H : Hp) (E : XK), Room k (A.deeper (PyProof.Rows.envOfC qual (defScope st) s.heap.objs.size f cdv)) → DB (cxOf CX0 P w K mg base N qual (defScope st) f cdv A outer s H E).nox rm (defBody st) b) :
    FnOk P w K mg base CX0 (k + 1) f fd ps (spD K rm ms (box (runF n rm ms b))) := by
  rw [box_eq]; exact fn_ok F S hm hn am body
end DV

namespace DV
open PySem L2 PySem.Spec PyProof.Rows
/-! ### a loop over an own list: the list is lent to the loop -/
def Fr.lend (F : Fr) (i : Nat) (a : Addr) (vs : List V) : Fr := ⟨F.g, F.b, fun j => if j = i then some (a, vs) else F.pin j⟩
section
variable {K : PySem.W.Frag} {F : Fr} {H0 G H G' H' : Hp} {ρ ρ' : Rho} {σ σ' : L2.St} {ds : List PyData} {vs : List V} {i : Nat} {a : Addr}
theorem Sok.lend (s : Sok K F H0 G ρ σ H) (h : ρ[i]? = some (.own (.list ds))) (ha : σ[i]? = some (some (.ref a))) (hn : H0 a = none) (hg : G a = none) (hv : H a = some (.lst vs)) (rl : RepA K G ds vs) :
    Sok K (F.lend i a vs) (upd H0 a (.lst vs)) G (ρ.set i (.pin (.list ds))) σ H := by
  have hi : i < ρ.length := (List.getElem?_eq_some_iff.mp h).1
  have own_of : ∀ {j : Nat} {e : PyData}, (ρ.set i (.pin (.list ds)))[j]? = some (.own e) → ρ[j]? = some (.own e) := fun {j e} q => by
    by_cases z : j = i
    · subst z; rw [List.getElem?_set_self hi] at q; cases q
    · rw [List.getElem?_set_ne (Ne.symm z)] at q; exact q
  refine ⟨⟨s.gx.g, fun b w hw => ?_, s.gx.gh, fun b hb => ?_⟩, by rw [List.length_set]; exact s.len, fun j q hj => ?_, fun j k d1 e b hjk h1 h2 h3 h4 => s.apart j k _ _ b hjk (own_of h1) (own_of h2) h3 h4, fun j d hj => ?_, s.base.trans (Ex.new hn), fun j b us hj => ?_⟩
  · by_cases z : b = a
    · subst z; rw [upd_same] at hw; rw [hv]; exact hw
    · rw [upd_ne z] at hw; exact s.gx.h b w hw
  · by_cases z : b = a
    · subst z; exact absurd hg hb
    · rw [upd_ne z]; exact s.gx.nw b hb
  · by_cases z : j = i
    · subst z
      rw [List.getElem?_set_self hi] at hj
      cases hj
      exact .pin
    · rw [List.getElem?_set_ne (Ne.symm z)] at hj
      have q2 := s.slot j q hj
      generalize e : σ[j]?.getD none = w at q2
      cases q2 with
      | un => exact .un
      | val h => exact .val h
      | bor h => exact .bor h
      | scr h => exact .scr h
      | pin => exact .pin
      | own k1 k2 k3 =>
        refine .own ?_ k2 k3
        rw [upd_ne]
        · exact k1
        · rintro rfl
          exact s.apart i j _ _ _ (fun z' => z z'.symm) h hj ha (getD_some e)
  · by_cases z : j = i
    · subst z
      rw [List.getElem?_set_self hi] at hj
      cases hj
      exact ⟨a, vs, ds, if_pos rfl, ha, rfl, rl⟩
    · rw [List.getElem?_set_ne (Ne.symm z)] at hj
      obtain ⟨b, us, es, p1, p2⟩ := s.pins j d hj
      exact ⟨b, us, es, (if_neg z).trans p1, p2⟩
  · by_cases z : j = i
    · subst z
      have : (some (a, vs) : Option (Addr × List V)) = some (b, us) := (if_pos rfl).symm.trans hj
      cases this
      exact upd_same
    · have hj' : F.pin j = some (b, us) := (if_neg z).symm.trans hj
      have hb := s.wf j b us hj'
      rw [upd_ne]
      · exact hb
      · rintro rfl
        rw [hn] at hb; cases hb
theorem Sok.back (s : Sok K F H0 G ρ σ H) (hn : H0 a = none) (hg : G a = none) (rl : RepA K G ds vs) (eg : Ex G G') {d : PyData} (s' : Sok K (F.lend i a vs) (upd H0 a (.lst vs)) G' ρ' σ' H') (h : ρ'[i]? = some (.pin d)) :
    Sok K F H0 G' (ρ'.set i (.own (.list ds))) σ' H' := by
  have hi : i < ρ'.length := (List.getElem?_eq_some_iff.mp h).1
  have hg0 : F.g a = none := s.gx.g.back hg
  have ha : σ'[i]? = some (some (.ref a)) := by
    obtain ⟨b, us, es, p1, p2, _⟩ := s'.pins i d h
    have : (some (a, vs) : Option (Addr × List V)) = some (b, us) := (if_pos rfl).symm.trans p1
    cases this
    exact p2
  have hg' : G' a = none := by
    cases e : G' a with
    | none => rfl
    | some w =>
      rcases s'.gx.nw a (by rw [e]; simp) with z | z
      · exact absurd hg0 z
      · rw [upd_same] at z; exact (show False from z).elim
  have hv : H' a = some (.lst vs) := s'.gx.h a _ upd_same
  refine ⟨⟨s'.gx.g, (Ex.new hn).trans s'.gx.h, s'.gx.gh, fun b hb => ?_⟩, by rw [List.length_set]; exact s'.len, fun j q hj => ?_, fun j k d1 e b hjk h1 h2 h3 h4 => ?_, fun j d' hj => ?_, s.base, s.wf⟩
  · rcases s'.gx.nw b hb with z | z
    · exact .inl z
    · by_cases y : b = a
      · subst y; rw [upd_same] at z; cases z
      · rw [upd_ne y] at z; exact .inr z
  · by_cases z : j = i
    · subst z
      rw [List.getElem?_set_self hi] at hj
      cases hj
      rw [ha]
      exact .own hn hg' (.lst hv (rl.mono eg))
    · rw [List.getElem?_set_ne (Ne.symm z)] at hj
      have q2 := s'.slot j q hj
      generalize e : σ'[j]?.getD none = w at q2
      cases q2 with
      | un => exact .un
      | val h => exact .val h
      | bor h => exact .bor h
      | scr h => exact .scr h
      | pin => exact .pin
      | @own d2 c k1 k2 k3 =>
        refine .own ?_ k2 k3
        by_cases y : c = a
        · subst y; rw [upd_same] at k1; cases k1
        · rw [upd_ne y] at k1; exact k1
  · have nota : ∀ {j : Nat} {e : PyData} {b : Addr}, ρ'[j]? = some (.own e) → σ'[j]? = some (some (.ref b)) → b ≠ a := fun {j e b} q q2 => by
      obtain ⟨c, k1, k2, _⟩ := s'.own q
      rw [q2] at k1; cases k1
      rintro rfl
      rw [upd_same] at k2; cases k2
    by_cases z : j = i
    · subst z
      rw [ha] at h3; cases h3
      rw [List.getElem?_set_ne hjk] at h2
      exact nota h2 h4 rfl
    · rw [List.getElem?_set_ne (Ne.symm z)] at h1
      by_cases y : k = i
      · subst y
        rw [ha] at h4; cases h4
        exact nota h1 h3 rfl
      · rw [List.getElem?_set_ne (Ne.symm y)] at h2
        exact s'.apart j k _ _ b hjk h1 h2 h3 h4
  · by_cases z : j = i
    · subst z
      rw [List.getElem?_set_self hi] at hj; cases hj
    · rw [List.getElem?_set_ne (Ne.symm z)] at hj
      obtain ⟨b, us, es, p1, p2⟩ := s'.pins j d' hj
      exact ⟨b, us, es, (if_neg z).symm.trans p1, p2⟩
end
def sForOwn (i : Nat) (g : SG) (b : SS) : SS := fun ρ => match ρ[i]? with
  | some (.own (.list ds)) => (forGo g b ds (ρ.set i (.pin (.list ds)))).bind fun o => match o with
    | .nx ρ' => match ρ'[i]? with
      | some (.pin _) => some (.nx (ρ'.set i (.own (.list ds))))
      | _ => none
    | .rt d => some (.rt d)
    | _ => none
  | _ => none
section
variable {X : Cx} {rm : Md} {tg : Expr} {body : List Stmt} {g : SG} {f : SS} {x : Str} {p1 pos : Pos}
theorem s_forOwn (i : Nat) (hp : PassesOwn (model X.prog X.w) X.A X.env X.xe) (hc : X.calm = true) (hg : DG X tg g) (hb : DB X rm body f) (hrm : rm = .val ∨ rm = .new := by first | exact Or.inl rfl | exact Or.inr rfl)
    (hN : X.N[i]? = some x := by rfl) (hv : Vis X.env.scope x := by first | exact Or.inl rfl | exact Or.inr (Or.inl rfl) | exact Or.inr (Or.inr rfl)) (hd : (x == ("__debug__" : Str)) = false := by decide) (hcd : (x == ("__classdict__" : Str)) = false := by decide)
    (hs : ∀ y, foldedSetIterable (.Name x p1) X.env y = pure y := by intro _; rfl) : DS X rm (.For tg (.Name x p1) body [] pos) (sForOwn i g f) :=
  ⟨(ps_for hp hc (pi_any (pv i hN hv hd hcd)) hg.pg hb.pss hs).imp fun D σ H ⟨G0, H0, G, ρ, o, s, e, q⟩ => by
    unfold sForOwn at e
    split at e
    · rename_i ds h
      obtain ⟨oo, e2, e3⟩ := bind_some e
      obtain ⟨a, ha, hn, hga, ow⟩ := s.own h
      obtain ⟨vs, hv', rl⟩ := own_list ow
      refine ⟨_, ha, .inl ⟨a, rfl, ⟨vs, .inl (.inl hv')⟩, ?_⟩⟩
      have w : WalkD X.K (upd H0 a (.lst vs)) G (Itl X.K a) ds := WalkD.list (fun H2 _ b => .inl (.inl (b a _ upd_same))) rl
      have s1 := s.lend h ha hn hga hv' rl
      let St (i' : Nat) (σi : L2.St) (Hi : Hp) : Prop := ∃ Gi ρi, Ex G Gi ∧ Sok X.K (G0.lend i a vs) (upd H0 a (.lst vs)) Gi ρi σi Hi ∧ i' ≤ ds.length ∧ forGo g f (ds.drop i') ρi = some oo
      -- the end of the loop
      have fin : ∀ ρ' Gi σi Hi, oo = .nx ρ' → Ex G Gi → Sok X.K (G0.lend i a vs) (upd H0 a (.lst vs)) Gi ρ' σi Hi → D.nx σi Hi := fun ρ' Gi σi Hi eo eg si => by
        subst eo
        simp only [] at e3
        split at e3
        · rename_i d hd'
          cases e3
          exact q Gi σi Hi eg (Sok.back s hn hga rl eg si hd')
        · cases e3
      refine ⟨fun i' m σi Hi => m = ds.length - i' ∧ St i' σi Hi, ⟨_, rfl, G, _, Ex.refl _, s1, Nat.zero_le _, e2⟩, ?_⟩
      rintro i' m σi Hi ⟨rfl, Gi, ρi, eg, si, hi, hr⟩
      by_cases hlt : i' < ds.length
      · refine .inr ⟨w.goes i' Gi Hi hlt eg si.gx.gh si.gx.h, St (i' + 1), fun σ' H' p => ⟨_, by omega, rfl, p⟩, fun y H' hy => ?_⟩
        have hd := List.getElem?_eq_getElem hlt
        obtain ⟨G3, gx3, rx⟩ := w.yields i' _ Gi Hi y H' hd eg si.gx.gh si.gx.h hy
        rw [List.drop_eq_getElem_cons hlt] at hr
        obtain ⟨ρ1, e1, hr⟩ := bind_some hr
        obtain ⟨o1, e2', hr⟩ := bind_some hr
        refine ⟨G0.lend i a vs, upd H0 a (.lst vs), G3, ρi, _, ρ1, si.gx' gx3, rx, e1, fun σ2 s2 => ⟨G0.lend i a vs, upd H0 a (.lst vs), G3, ρ1, o1, s2, e2', ?_⟩⟩
        have eg3 := eg.trans gx3.g
        cases o1 with
        | nx ρ' => exact fun G' σ' H' e4 s4 => ⟨G', ρ', eg3.trans e4, s4, hlt, hr⟩
        | ct ρ' => exact fun G' σ' H' e4 s4 => ⟨G', ρ', eg3.trans e4, s4, hlt, hr⟩
        | bk ρ' =>
          exact fun G' σ' H' e4 s4 => fin ρ' G' σ' H' (Option.some.inj hr).symm (eg3.trans e4) s4
        | rt d =>
          cases hr
          cases e3
          exact fun G' H' v gx r => q G' H' v ⟨gx.g, (Ex.new hn).trans gx.h, gx.gh, fun b hb => (gx.nw b hb).imp id fun z => by
            by_cases y : b = a
            · subst y; rw [upd_same] at z; cases z
            · rw [upd_ne y] at z; exact z⟩ (by
              rcases hrm with rfl | rfl
              · exact r
              · exact RM.start (Ex.new hn) r)
      · have ei : i' = ds.length := by omega
        subst ei
        rw [List.drop_length] at hr
        cases hr
        exact .inl ⟨w.stops Gi Hi eg si.gx.gh si.gx.h, fin ρi Gi σi Hi rfl eg si⟩
    · cases e⟩
end
@[simp] theorem sForOwn_r {g : SG} {b : SS} {k : Nat} {ρ : Rho} : sForOwn k g b ρ = (match getS ρ k with
  | some (.own (.list ds)) => (forGo g b ds (ρ.set k (.pin (.list ds)))).bind fun o => match o with
    | .nx ρ' => match getS ρ' k with
      | some (.pin _) => some (.nx (ρ'.set k (.own (.list ds))))
      | _ => none
    | .rt d => some (.rt d)
    | _ => none
  | _ => none) := by
  rw [getS_eq]; unfold sForOwn
  cases ρ[k]? with
  | none => rfl
  | some s => cases s with
    | own d => cases d with
      | list ds =>
        simp only []
        congr 1; funext o
        cases o with
        | nx ρ' => simp only [getS_eq]
        | _ => rfl
      | _ => rfl
    | _ => rfl
theorem sForOwn_eq {g : SG} {b : SS} {k : Nat} {ρ ρ' : Rho} {ds : List PyData} {d : PyData} (h : getS ρ k = some (.own (.list ds))) (e : forGo g b ds (ρ.set k (.pin (.list ds))) = some (.nx ρ')) (h2 : getS ρ' k = some (.pin d)) : sForOwn k g b ρ = some (.nx (ρ'.set k (.own (.list ds)))) := by
  rw [sForOwn_r, h]
  simp only []
  rw [e]
  simp only [Option.bind_some]
  rw [h2]
end DV

namespace DV
open PySem L2 PySem.Spec PyProof.Rows
section
variable {X : Cx} {m : Md} {a b : Expr} {f g : SE} {pos apos : Pos} {name : Str} {id : String}
/-! ### methods of texts with one argument -/
def MtF (K : PySem.W.Frag) (m : Md) (r : V → List V → Hp → VK → Prop) (F : PyData → PyData → Option PyData) : Prop :=
  ∀ (G H : Hp) (d1 d2 d : PyData) (x y : V) (Q : VK), Ex G H → RepB K G H d1 x → RepB K G H d2 y → F d1 d2 = some d → (∀ G' H' v, Gx G H G' H' → (∀ H0, RM K H0 H m G' H' d v) → Q v H') → r x [y] H Q
theorem d_m1 {r : V → List V → Hp → VK → Prop} {F : PyData → PyData → Option PyData} (slot : PySem.Slot "str" name id) (ty : typeOf (.builtin id) = pure (.type "method_descriptor")) (rule : MtR X id r) (hF : MtF X.K m r F) (hS : ∀ d1 d2 d, F d1 d2 = some d → ∃ z, d1 = .str z)
    (ha : DX X .bor a f) (hb : DX X .bor b g) (hs : starEach [b] X.env = [(false, eval b X.env)] := by rfl) (hbase : attributeBase a name X.env (eval a X.env) = eval a X.env := by rfl) (hline : (apos.endLine == pos.line) = true := by rfl) :
    DX X m (.Call (.Attribute a name apos) [b] [] pos) (eOp F f g) :=
  ⟨(pe_m1 slot ty rule ha.pe hb.pe hs hbase hline).imp fun σ H Q ⟨G0, H0, G, ρ, d, s, ed, q⟩ => by
    obtain ⟨d1, e1, ed⟩ := bind_some ed
    obtain ⟨d2, e2, ed⟩ := bind_some ed
    refine ⟨G0, H0, G, ρ, d1, s, e1, fun G1 H1 x gx1 r1 => ?_⟩
    obtain ⟨z, rfl⟩ := hS _ _ _ ed
    refine ⟨⟨z, RepB.str r1⟩, G0, H0, G1, ρ, d2, s.gx' gx1, e2, fun G2 H2 y gx2 r2 => ?_⟩
    exact hF G2 H2 _ d2 d x y Q gx2.gh (RepB.mono gx2.g gx2.h r1) r2 ed fun G' H' v gx3 r3 => q G' H' v ((gx1.trans gx2).trans gx3) ((r3 H0).start (gx1.trans gx2).h)⟩
def oSplit (a b : PyData) : Option PyData := match a, b with
  | .str x, .str y => if (y.length == 0) = false ∧ x.length + 2 ≤ sizeLine then some (.list ((Txt.split x y).map .str)) else none
  | _, _ => none
theorem strs_A {K : PySem.W.Frag} {G : Hp} : ∀ l : List Str, RepA K G (l.map .str) (l.map V.str)
  | [] => .nil
  | x :: l => .cons (.str x) (strs_A l)
theorem mtf_split {K : PySem.W.Frag} : MtF K .new (fun x xs H Q => ∃ a b, x = .str a ∧ xs = [.str b] ∧ (b.length == 0) = false ∧ a.length + 2 ≤ sizeLine ∧ rNewStrs (Txt.split a b) H Q) oSplit := fun G H d1 d2 d x y Q e r1 r2 h q => by
  unfold oSplit at h
  split at h
  · obtain ⟨⟨c1, c2⟩, rfl⟩ := if_some h
    cases r1.str
    cases r2.str
    refine ⟨_, _, rfl, rfl, c1, c2, fun p hp => q G _ _ (Gx.mine e hp) fun H0 => ⟨p, rfl, hp, e.back hp, .lst upd_same (strs_A _)⟩⟩
  · cases h
theorem s_split {d1 d2 d : PyData} (h : oSplit d1 d2 = some d) : ∃ z, d1 = .str z := by
  unfold oSplit at h
  split at h
  · exact ⟨_, rfl⟩
  · cases h
def oCount (a b : PyData) : Option PyData := match a, b with
  | .str x, .str y => some (.int (Txt.count x y))
  | _, _ => none
theorem mtf_count {K : PySem.W.Frag} : MtF K .val (fun x xs H Q => ∃ a b, x = .str a ∧ xs = [.str b] ∧ Q (.int (Txt.count a b)) H) oCount := fun G H d1 d2 d x y Q e r1 r2 h q => by
  unfold oCount at h
  split at h
  · cases h
    cases r1.str
    cases r2.str
    exact ⟨_, _, rfl, rfl, q G H _ (Gx.refl e) fun _ => .int _⟩
  · cases h
theorem s_count {d1 d2 d : PyData} (h : oCount d1 d2 = some d) : ∃ z, d1 = .str z := by
  unfold oCount at h
  split at h
  · exact ⟨_, rfl⟩
  · cases h
theorem d_split (ha : DX X .bor a f) (hb : DX X .bor b g) (hs : starEach [b] X.env = [(false, eval b X.env)] := by rfl) (hbase : attributeBase a "split" X.env (eval a X.env) = eval a X.env := by rfl) (hline : (apos.endLine == pos.line) = true := by rfl) :
    DX X .new (.Call (.Attribute a "split" apos) [b] [] pos) (eOp oSplit f g) := d_m1 F.slot_str_split F.type_str_split mt_split mtf_split (fun _ _ _ => s_split) ha hb hs hbase hline
theorem d_count (ha : DX X .bor a f) (hb : DX X .bor b g) (hs : starEach [b] X.env = [(false, eval b X.env)] := by rfl) (hbase : attributeBase a "count" X.env (eval a X.env) = eval a X.env := by rfl) (hline : (apos.endLine == pos.line) = true := by rfl) :
    DX X .val (.Call (.Attribute a "count" apos) [b] [] pos) (eOp oCount f g) := d_m1 F.slot_str_count F.type_str_count mt_count mtf_count (fun _ _ _ => s_count) ha hb hs hbase hline
end
/-! ### x.extend(new list) -/
section
variable {X : Cx} {rm : Md} {a : Expr} {f : SE} {pos p1 cpos apos : Pos} {x : Str}
theorem s_ext (i : Nat) (ha : DX X .new a f) (hN : X.N[i]? = some x := by rfl) (hv : Vis X.env.scope x := by first | exact Or.inl rfl | exact Or.inr (Or.inl rfl) | exact Or.inr (Or.inr rfl)) (hd : (x == ("__debug__" : Str)) = false := by decide)
    (hcd : (x == ("__classdict__" : Str)) = false := by decide)
    (hbase : attributeBase (.Name x p1) "extend" X.env (eval (.Name x p1) X.env) = eval (.Name x p1) X.env := by rfl)
    (hfew : ((backTo cpos (starEach (a :: []) X.env)).all (fun x => !x.1) && (backToKw cpos (keywordEach [] X.env)).all (fun x => x.1.isSome)
      && decide ((a :: []).length + ([] : List Keyword).length + (if ([] : List Keyword).isEmpty then 0 else 1) < 30)) = true := by rfl)
    (hline : (apos.endLine == cpos.line) = true := by rfl) (hs : starEach (a :: []) X.env = (false, eval a X.env) :: starEach [] X.env := by rfl) (hplain : (backTo cpos (starEach [] X.env)).any (·.1) = false := by rfl)
    (hsw : swapsWith (.Call (.Attribute (.Name x p1) "extend" apos) [a] [] cpos) none pos.line X.env = pure false := by rfl) :
    DS X rm (.Expr (.Call (.Attribute (.Name x p1) "extend" apos) [a] [] cpos) pos) (sMut fExt i (aCons f aNil)) :=
  ⟨(ps_expr (pe_bm PySem.F.plainAttrs_list PySem.F.slot_list_extend PySem.F.type_list_extend mt_extend (pv i hN hv hd hcd) (a_cons ha a_nil hs).pa hbase hfew hline hs hplain) hsw).imp
    fun D σ H ⟨G0, H0, G, ρ, o, s, e, q⟩ => by
    unfold sMut at e
    split at e
    · rename_i l h
      obtain ⟨ds, e1, e⟩ := bind_some e
      obtain ⟨d, e2, e⟩ := bind_some e
      cases e
      obtain ⟨p, h1, h2, h3, h4⟩ := s.own h
      obtain ⟨vs, hv, _⟩ := own_list h4
      refine ⟨_, h1, .inl ⟨rfl, _, SqL.of hv⟩, G0, H0, G, ρ, ds, s, e1, fun G1 H1 us gx ra => ?_⟩
      have s1 := s.gx' gx
      obtain ⟨p', k1, k2, k3, k4⟩ := s1.own h
      rw [h1] at k1; cases k1
      obtain ⟨vs', hv', rl⟩ := own_list k4
      unfold fExt at e2
      split at e2
      · rename_i k
        obtain ⟨hl, rfl⟩ := if_some e2
        cases ra with
        | cons r1 t =>
          cases t
          obtain ⟨b, rfl, hb, gb, ob⟩ := (show ∃ b, _ = V.ref b ∧ H b = none ∧ G1 b = none ∧ Own X.K G1 H1 b (.list k) from r1)
          obtain ⟨zs, hz, rz⟩ := own_list ob
          refine ⟨p, b, vs', zs, rfl, rfl, hv', hz, by rw [← rl.len, ← rz.len]; exact hl, ?_⟩
          exact q G1 σ _ gx.g (s1.write h h1 k2 k3 (.lst upd_same (rl.app rz)))
      · cases e2
    · cases e⟩
end
theorem fExt_eq {l k : List PyData} (h : l.length + k.length ≤ sizeLine) : fExt l [.list k] = some (.list (l ++ k)) := if_pos h
end DV

namespace DV
open PySem L2 PySem.Spec PyProof.Rows
/-! ### methods of texts with more arguments -/
def eBm (F : PyData → List PyData → Option PyData) (f : SE) (r : SA) : SE := fun ρ => (f ρ).bind fun x => (r ρ).bind fun ds => F x ds
@[simp] theorem eBm_r {F : PyData → List PyData → Option PyData} {f : SE} {r : SA} {ρ : Rho} : eBm F f r ρ = (f ρ).bind fun x => (r ρ).bind fun ds => F x ds := rfl
section
variable {X : Cx} {m : Md} {a e : Expr} {es : List Expr} {f : SE} {t : SA} {ms : List Md} {pos apos : Pos} {name : Str} {id : String}
def MtF2 (K : PySem.W.Frag) (m : Md) (ms : List Md) (r : V → List V → Hp → VK → Prop) (F : PyData → List PyData → Option PyData) : Prop :=
  ∀ (G H0 Hs H : Hp) (d1 d : PyData) (ds : List PyData) (x : V) (xs : List V) (Q : VK), Ex G H → RepB K G H d1 x → RMs K H0 Hs G H ms ds xs → F d1 ds = some d → (∀ G' H' v, Gx G H G' H' → (∀ H0, RM K H0 H m G' H' d v) → Q v H') → r x xs H Q
theorem d_ms {r : V → List V → Hp → VK → Prop} {F : PyData → List PyData → Option PyData} (slot : PySem.Slot "str" name id) (ty : typeOf (.builtin id) = pure (.type "method_descriptor")) (rule : MtR X id r) (hF : MtF2 X.K m ms r F) (hS : ∀ d1 d2 d, F d1 d2 = some d → ∃ z, d1 = .str z)
    (ha : DX X .bor a f) (hb : DA X ms (e :: es) t)
    (hbase : attributeBase a name X.env (eval a X.env) = eval a X.env := by rfl)
    (hfew : ((backTo pos (starEach (e :: es) X.env)).all (fun x => !x.1) && (backToKw pos (keywordEach [] X.env)).all (fun x => x.1.isSome)
      && decide ((e :: es).length + ([] : List Keyword).length + (if ([] : List Keyword).isEmpty then 0 else 1) < 30)) = true := by rfl)
    (hline : (apos.endLine == pos.line) = true := by rfl) (hs : starEach (e :: es) X.env = (false, eval e X.env) :: starEach es X.env := by rfl) (hplain : (backTo pos (starEach es X.env)).any (·.1) = false := by rfl) :
    DX X m (.Call (.Attribute a name apos) (e :: es) [] pos) (eBm F f t) :=
  ⟨(pe_bm PySem.F.plainAttrs_str slot ty rule ha.pe hb.pa hbase hfew hline hs hplain).imp fun σ H Q ⟨G0, H0, G, ρ, d, s, ed, q⟩ => by
    obtain ⟨d1, e1, ed⟩ := bind_some ed
    obtain ⟨ds, e2, ed⟩ := bind_some ed
    refine ⟨G0, H0, G, ρ, d1, s, e1, fun G1 H1 x gx1 r1 => ?_⟩
    obtain ⟨z, rfl⟩ := hS _ _ _ ed
    refine ⟨?_, G0, H0, G1, ρ, ds, s.gx' gx1, e2, fun G2 H2 ys gx2 r2 => ?_⟩
    · cases RepB.str r1
      exact (rfl : ("str" : String) = "str")
    · exact hF G2 _ _ H2 _ d ds x ys Q gx2.gh (RepB.mono gx2.g gx2.h r1) r2 ed fun G' H' v gx3 r3 => q G' H' v ((gx1.trans gx2).trans gx3) ((r3 H0).start (gx1.trans gx2).h)⟩
def oFind3 (a : PyData) (ds : List PyData) : Option PyData := match a, ds with
  | .str x, [.str y, .int i] => some (.int (Txt.find3 x y i))
  | _, _ => none
theorem mtf_find3 {K : PySem.W.Frag} : MtF2 K .val [.bor, .val] (fun x xs H Q => ∃ (a b : Str) (i : Int), x = .str a ∧ xs = [.str b, .int i] ∧ Q (.int (Txt.find3 a b i)) H) oFind3 := fun G H0 Hs H d1 d ds x xs Q e r1 r2 h q => by
  unfold oFind3 at h
  split at h
  · cases h
    cases r1.str
    cases r2 with
    | cons h1 t =>
      cases t with
      | cons h2 t =>
        cases t
        cases (RepB.str h1)
        cases (show Rep K G (.int _) _ from h2)
        exact ⟨_, _, _, rfl, rfl, q G H _ (Gx.refl e) fun _ => .int _⟩
  · cases h
theorem s_find3 {d1 : PyData} {d2 : List PyData} {d : PyData} (h : oFind3 d1 d2 = some d) : ∃ z, d1 = .str z := by
  unfold oFind3 at h
  split at h
  · exact ⟨_, rfl⟩
  · cases h
end
end DV

namespace DV
open PySem L2 PySem.Spec PyProof.Rows
/-! ### calls with keywords -/
theorem RMs.app {K : PySem.W.Frag} {H0 Hs G H : Hp} : ∀ {m1 m2 : List Md} {d1 d2 : List PyData} {v1 v2 : List V}, RMs K H0 Hs G H m1 d1 v1 → RMs K H0 Hs G H m2 d2 v2 → RMs K H0 Hs G H (m1 ++ m2) (d1 ++ d2) (v1 ++ v2)
  | _, _, _, _, _, _, .nil, t => t
  | _, _, _, _, _, _, .cons h r, t => .cons h (RMs.app r t)
structure DK (X : Cx) (ms : List Md) (kws : List Keyword) (f : SA) : Prop where
  pk : PK X kws (tA X.K ms f)
section
variable {X : Cx} {m : Md} {ms ms1 ms2 ms3 : List Md} {e : Expr} {es : List Expr} {kws : List Keyword} {f : SE} {r r2 : SA} {nm : Option Str} {kpos pos p : Pos} {x : Str} {k n : Nat} {ps ks : List Str} {rm : Md} {Fn : List PyData → Option PyData} {dv : List V} {dd : List PyData}
theorem k_nil : DK X [] [] aNil := ⟨⟨fun pos pins s σ H Q I h => pk_nil.run pos pins s σ H Q I (by
  obtain ⟨G0, H0, G, ρ, ds, s, e, q⟩ := h
  cases e
  exact q G H [] (Gx.refl s.gx.gh) .nil)⟩⟩
theorem k_cons (ha : DX X m e f) (hr : DK X ms kws r) : DK X (m :: ms) (⟨nm, e, kpos⟩ :: kws) (aCons f r) := ⟨⟨fun pos pins s σ H Q I h => (pk_cons ha.pe hr.pk).run pos pins s σ H Q I (by
  obtain ⟨G0, H0, G, ρ, ds, s, ed, q⟩ := h
  obtain ⟨d, e1, ed⟩ := bind_some ed
  obtain ⟨ds', e2, ed⟩ := bind_some ed
  cases ed
  refine ⟨G0, H0, G, ρ, d, s, e1, fun G1 H1 v gx1 r1 => ⟨G0, H0, G1, ρ, ds', s.gx' gx1, e2, fun G2 H2 vs gx2 r2 => q G2 H2 (v :: vs) (gx1.trans gx2) (.cons (r1.mono gx2) (r2.start gx1.h))⟩⟩)⟩⟩
/-- a def that is called with keywords: n values by place, keywords ks behind them, then the defaults dv -/
def FnKw (P : Program) (w : World) (K : PySem.W.Frag) (mg : Str → Option Value) (base : Heap) (x : Str) (ps : List Str) (k : Nat) (rm : Md) (ms : List Md) (F : List PyData → Option PyData) (n : Nat) (ks : List Str) (dv : List V) : Prop :=
  ∃ (f : Addr) (fd : FuncData) (g : List Value → List Value → List Value), FnOk P w K mg base CX0 k f fd ps (spD K rm ms F) ∧ mg x = some (.ref f) ∧ PySem.W.keepIn K (.ref f) = true ∧ KBn K fd ps n ks g (fun vs zs => vs ++ (zs ++ dv))
def eCallK (F : List PyData → Option PyData) (r r2 : SA) (dd : List PyData) : SE := fun ρ => (r ρ).bind fun a => (r2 ρ).bind fun b => F (a ++ (b ++ dd))
@[simp] theorem eCallK_r {F : List PyData → Option PyData} {ρ : Rho} : eCallK F r r2 dd ρ = (r ρ).bind fun a => (r2 ρ).bind fun b => F (a ++ (b ++ dd)) := rfl
theorem d_fnK (F : FnKw X.prog X.w X.K X.mg X.base x ps k rm (ms1 ++ (ms2 ++ ms3)) Fn n ks dv) (hr : Room k X.A) (ha : DA X ms1 (e :: es) r) (hkw : DK X ms2 kws r2) (hd : ∀ (H0 Hs G H : Hp), RMs X.K H0 Hs G H ms3 dd dv) (am : ArgMd (ms1 ++ (ms2 ++ ms3))) (hn : ms1.length = n) (hk2 : ms2.length = ks.length)
    (hrm : rm = .val ∨ rm = .new := by first | exact Or.inl rfl | exact Or.inr rfl) (hg : Gl X x := by rfl) (hall : (backToKw pos (keywordEach kws X.env)).all (·.1.isSome) = true := by rfl) (hks : (backToKw pos (keywordEach kws X.env)).filterMap (·.1) = ks := by rfl)
    (hdb : (x == ("__debug__" : Str)) = false := by decide) (he : starEach (e :: es) X.env = (false, eval e X.env) :: starEach es X.env := by rfl)
    (hpl : ((backTo pos (starEach (e :: es) X.env)).any (·.1) || (backToKw pos (keywordEach kws X.env)).any (·.1.isNone)) = false := by rfl) :
    DX X rm (.Call (.Name x p) (e :: es) kws pos) (eCallK Fn r r2 dd) := by
  obtain ⟨f, fd, g, F, hm, hk, hb⟩ := F
  refine ⟨(pe_callN F hr hg hm hk hb pass0 ha.pa hkw.pk hall hks hdb he hpl).imp fun σ H Q ⟨G0, H0, G, ρ, d, s, ed, q⟩ => ?_⟩
  obtain ⟨d1, e1, ed⟩ := bind_some ed
  obtain ⟨d2, e2, ed⟩ := bind_some ed
  refine ⟨G0, H0, G, ρ, d1, s, e1, fun G1 H1 vs gx1 r1 => ⟨G0, H0, G1, ρ, d2, s.gx' gx1, e2, fun G2 H2 zs gx2 r2 => ⟨r1.len.2.trans hn, r2.len.2.trans hk2, ?_⟩⟩⟩
  have ra := ((r1.mono gx2).start (Ex.refl _)).app ((r2.start gx1.h).app (hd H0 H G2 H2))
  refine ⟨ra.len.2, G2, _, d, gx2.gh, ra.call am, ed, fun G3 H3 v gx3 r3 => q G3 H3 v ((gx1.trans gx2).trans gx3) ?_⟩
  rcases hrm with rfl | rfl
  · exact r3
  · exact RM.start (gx1.trans gx2).h r3
end
/-! ### a list that is given away: return f(.., xs, ..) -/
def slotsM : List Md → List PyData → Rho
  | .new :: ms, d :: ds => .own d :: slotsM ms ds
  | _ :: ms, d :: ds => .val d :: slotsM ms ds
  | _, _ => []
def runM (n : Nat) (rm : Md) (ms : List Md) (f : SS) : List PyData → Option PyData := fun ds =>
  if ds.length = ms.length then (f (slotsM ms ds ++ List.replicate (n - ds.length) .un)).bind fun o => match o, rm with
    | .rt d, _ => some d
    | .nx _, .val => some .none
    | _, _ => none
  else none
def spM (K : PySem.W.Frag) (rm : Md) (ms : List Md) (F : List PyData → Option PyData) : Sp := fun vs H Q _ =>
  vs.length = ms.length ∧ ∃ G H0 ds d, Gx G H0 G H ∧ RMs K H0 H0 G H ms ds vs ∧ F ds = some d ∧ ∀ G' H' v, Gx G H0 G' H' → RM K H0 H0 rm G' H' d v → Q v H'
def ArgMv (ms : List Md) : Prop := ∀ m ∈ ms, m = .val ∨ m = .new
def oneNew : List Md → Bool
  | [] => true
  | .new :: ms => ms.all (· != Md.new)
  | _ :: ms => oneNew ms
theorem slotsM_ok {K : PySem.W.Frag} {B H0 G H : Hp} : ∀ {ms : List Md} {ds : List PyData} {vs : List V}, ArgMv ms → RMs K H0 H0 G H ms ds vs → (slotsM ms ds).length = vs.length ∧
    (∀ (i : Nat) (s : Slot), (slotsM ms ds)[i]? = some s → SlotOk K B H0 G H s ((vs.map some)[i]?.getD none) ∧ (∀ d, s ≠ .pin d) ∧ ((∃ d, s = .own d) → ms[i]? = some Md.new))
  | _, _, _, _, .nil => ⟨rfl, fun i s h => by simp [slotsM] at h⟩
  | m :: ms, d :: ds, v :: vs, am, .cons h t => by
    obtain ⟨l, q⟩ := slotsM_ok (B := B) (fun m hm => am m (List.mem_cons_of_mem _ hm)) t
    rcases am m List.mem_cons_self with rfl | rfl
    · refine ⟨congrArg (· + 1) l, fun i s hs => ?_⟩
      cases i with
      | zero =>
        cases hs
        exact ⟨.val h, (fun d e => by cases e), fun ⟨d, e⟩ => by cases e⟩
      | succ i => exact q i s hs
    · refine ⟨congrArg (· + 1) l, fun i s hs => ?_⟩
      cases i with
      | zero =>
        cases hs
        obtain ⟨p, rfl, h1, h2, h3⟩ := h
        exact ⟨.own h1 h2 h3, (fun d e => by cases e), fun _ => rfl⟩
      | succ i => exact q i s hs
theorem oneNew_at : ∀ {ms : List Md}, oneNew ms = true → ∀ i j : Nat, ms[i]? = some Md.new → ms[j]? = some Md.new → i = j
  | [], _, i, j, h, _ => by simp at h
  | m :: ms, ho, i, j, hi, hj => by
    have no : (ms.all (· != Md.new)) = true → ∀ k, ms[k]? ≠ some Md.new := fun h k hk => by
      have := (List.all_eq_true.mp h) _ (List.mem_of_getElem? hk)
      simp at this
    have key : m = Md.new ∨ m ≠ Md.new := by by_cases h : m = Md.new <;> simp [h]
    rcases key with rfl | hm
    · have ho : (ms.all (· != Md.new)) = true := ho
      cases i with
      | zero => cases j with
        | zero => rfl
        | succ j => exact absurd (by simpa using hj) (no ho j)
      | succ i => exact absurd (by simpa using hi) (no ho i)
    · have ho : oneNew ms = true := by cases m <;> first | exact ho | exact absurd rfl hm
      cases i with
      | zero => exact absurd (by simpa using hi) hm
      | succ i => cases j with
        | zero => exact absurd (by simpa using hj) hm
        | succ j => exact congrArg (· + 1) (oneNew_at ho i j (by simpa using hi) (by simpa using hj))
theorem fn_okM0 {P : Program} {w : World} {K : PySem.W.Frag} {mg : Str → Option Value} {base : Heap} {x qual : Str} {st : Stmt} {f : Addr} {fd : FuncData} {N ps : List Str} {k n : Nat} {ms : List Md} {rm : Md} {b : SS} (F : Fun K x qual st f fd) (S : FnScope N ps (defScope st))
    (hm : ms.length = ps.length) (hn : N.length = n) (am : ArgMv ms) (one : oneNew ms = true)
    (body : ∀ (cdv : Value) (A : Around) (outer : List Env) (s : Shared) (H : Hp) (E : XK), Room k (A.deeper (PyProof.Rows.envOfC qual (defScope st) s.heap.objs.size f cdv)) → DB (cxOf CX0 P w K mg base N qual (defScope st) f cdv A outer s H E).nox rm (defBody st) b) :
    FnOk P w K mg base CX0 (k + 1) f fd ps (spM K rm ms (runM n rm ms b)) := by
  subst hn
  refine F.ok S (fun vs H Q E h => h.1.trans hm) fun cdv A outer s H vs Q E hr h => ?_
  obtain ⟨hl, G, H0, ds, d, gx, ra, hF, q⟩ := h
  refine ⟨_, (body cdv A outer s H E hr).pss, ?_⟩
  obtain ⟨l1, so⟩ := slotsM_ok (B := H0) am ra
  have hpl : ps.length ≤ N.length := by have := congrArg List.length S.pre; rw [List.length_take] at this; omega
  obtain ⟨hl2, hF⟩ := ite_some hF
  obtain ⟨o, e1, e2⟩ := bind_some hF
  have dv : ds.length = vs.length := hl2.trans hl.symm
  have noOwn : ∀ (i : Nat) (s : Slot), (slotsM ms ds ++ List.replicate (N.length - ds.length) .un)[i]? = some s → (∃ d, s = .own d) → ms[i]? = some Md.new := fun i s hs ho => by
    by_cases hi : i < vs.length
    · rw [List.getElem?_append_left (by rw [l1]; exact hi)] at hs
      exact (so i s hs).2.2 ho
    · rw [List.getElem?_append_right (by rw [l1]; omega), List.getElem?_replicate] at hs
      obtain ⟨d, rfl⟩ := ho
      split at hs <;> cases hs
  refine ⟨⟨G, H0, fun _ => none⟩, H0, G, _, o, ⟨gx, ?_, fun i t ht => ?_, fun i j d1 d2 a hij h1 h2 => ?_, fun i d h1 => ?_, Ex.refl _, fun i a vs h => (by cases h)⟩, e1, ?_⟩
  · unfold L2.start
    rw [List.length_append, List.length_append, List.length_map, List.length_replicate, List.length_replicate, l1, dv]
  · unfold L2.start
    by_cases hi : i < vs.length
    · rw [List.getElem?_append_left (by rw [l1]; exact hi)] at ht
      rw [List.getElem?_append_left (by simpa using hi)]
      exact (so i t ht).1
    · rw [List.getElem?_append_right (by rw [l1]; omega), List.getElem?_replicate] at ht
      split at ht
      · cases ht; exact .un
      · cases ht
  · exact absurd (oneNew_at one i j (noOwn i _ h1 ⟨_, rfl⟩) (noOwn j _ h2 ⟨_, rfl⟩)) hij
  · exfalso
    by_cases hi : i < vs.length
    · rw [List.getElem?_append_left (by rw [l1]; exact hi)] at h1
      exact (so i _ h1).2.1 _ rfl
    · rw [List.getElem?_append_right (by rw [l1]; omega), List.getElem?_replicate] at h1
      split at h1 <;> cases h1
  · cases o with
    | rt d' =>
      have e3 : d' = d := by cases rm <;> exact Option.some.inj e2
      subst e3
      exact fun G' H' v gx r => q G' H' v gx r
    | nx ρ' =>
      cases rm with
      | val =>
        have e3 : PyData.none = d := Option.some.inj e2
        subst e3
        exact fun G' σ' H' _ s' => q G' H' .non s'.gx .non
      | _ => cases e2
    | bk _ => cases rm <;> cases e2
    | ct _ => cases rm <;> cases e2
theorem fn_okM {P : Program} {w : World} {K : PySem.W.Frag} {mg : Str → Option Value} {base : Heap} {x qual : Str} {st : Stmt} {f : Addr} {fd : FuncData} {N ps : List Str} {k n : Nat} {ms : List Md} {rm : Md} {b : SS} (F : Fun K x qual st f fd) (S : FnScope N ps (defScope st))
    (hm : ms.length = ps.length) (hn : N.length = n) (am : ArgMv ms) (one : oneNew ms = true)
    (body : ∀ (cdv : Value) (A : Around) (outer : List Env) (s : Shared) (H : Hp) (E : XK), Room k (A.deeper (PyProof.Rows.envOfC qual (defScope st) s.heap.objs.size f cdv)) → DB (cxOf CX0 P w K mg base N qual (defScope st) f cdv A outer s H E).nox rm (defBody st) b) :
    FnOk P w K mg base CX0 (k + 1) f fd ps (spM K rm ms (box (runM n rm ms b))) := by
  rw [box_eq]; exact fn_okM0 F S hm hn am one body
theorem runM_rt {n : Nat} {rm : Md} {ms : List Md} {ds : List PyData} {f : SS} {d : PyData} (hl : ds.length = ms.length) (h : f (slotsM ms ds ++ List.replicate (n - ds.length) .un) = some (.rt d)) : runM n rm ms f ds = some d := by
  unfold runM
  rw [if_pos hl, h]
  cases rm <;> rfl
theorem boxM_rt {n : Nat} {rm : Md} {ms : List Md} {b : SS} {ds : List PyData} {d : PyData} (h1 : ds.length = ms.length) (h2 : b (slotsM ms ds ++ List.replicate (n - ds.length) .un) = some (.rt d)) : box (runM n rm ms b) ds = some d := by
  rw [box_eq]; exact runM_rt h1 h2
theorem mv_nil : ArgMv [] := fun m hm => absurd hm List.not_mem_nil
theorem mv_val {ms : List Md} (h : ArgMv ms) : ArgMv (.val :: ms) := fun m hm => (List.mem_cons.mp hm).elim (fun e => .inl e) (h m)
theorem mv_new {ms : List Md} (h : ArgMv ms) : ArgMv (.new :: ms) := fun m hm => (List.mem_cons.mp hm).elim (fun e => .inr e) (h m)
/-- arguments, own lists among them -/
def tAm (K : PySem.W.Frag) (ms : List Md) (f : SA) : TA := fun σ H Q => ∃ G0 H0 G ρ ds, Sok K G0 H0 G ρ σ H ∧ f ρ = some ds ∧ ∀ G' H' vs, Gx G H G' H' → RMs K H0 H0 G' H' ms ds vs → Q vs H'
structure DAm (X : Cx) (ms : List Md) (es : List Expr) (f : SA) : Prop where
  pa : PA X es (tAm X.K ms f)
def eM (i : Nat) : SE := fun ρ => match ρ[i]? with
  | some (.own d) => some d
  | _ => none
@[simp] theorem eM_0 {d : PyData} {ρ : Rho} : eM 0 (.own d :: ρ) = some d := rfl
@[simp] theorem eM_s {s : Slot} {ρ : Rho} {k : Nat} : eM (k + 1) (s :: ρ) = eM k ρ := rfl
section
variable {X : Cx} {rm m : Md} {ms : List Md} {e : Expr} {es : List Expr} {f : SE} {r : SA} {pos p : Pos} {x y : Str} {k : Nat} {ps : List Str} {Fn : List PyData → Option PyData}
theorem am0 : DAm X [] [] aNil := ⟨(a_nil (X := X)).pa.imp fun σ H Q ⟨G0, H0, G, ρ, ds, s, e, q⟩ => ⟨G0, H0, G, ρ, ds, s, e, fun G' H' vs gx ra => q G' H' vs gx (ra.start (s.gx.h))⟩⟩
theorem am_c (h : DX X m e f) (hr : DAm X ms es r) (hs : starEach (e :: es) X.env = (false, eval e X.env) :: starEach es X.env := by rfl) : DAm X (m :: ms) (e :: es) (aCons f r) :=
  ⟨(pa_cons h.pe hr.pa hs).imp fun σ H Q ⟨G0, H0, G, ρ, ds, s, ed, q⟩ => by
    obtain ⟨d, e1, ed⟩ := bind_some ed
    obtain ⟨ds', e2, ed⟩ := bind_some ed
    cases ed
    exact ⟨G0, H0, G, ρ, d, s, e1, fun G1 H1 v gx1 r1 => ⟨G0, H0, G1, ρ, ds', s.gx' gx1, e2, fun G2 H2 vs gx2 r2 => q G2 H2 (v :: vs) (gx1.trans gx2) (.cons ((r1.start s.gx.h).mono gx2) r2)⟩⟩⟩
theorem am_m (i : Nat) {pos' : Pos} (hr : DAm X ms es r) (hN : X.N[i]? = some y := by rfl) (hv : Vis X.env.scope y := by first | exact Or.inl rfl | exact Or.inr (Or.inl rfl) | exact Or.inr (Or.inr rfl)) (hd : (y == ("__debug__" : Str)) = false := by decide)
    (hcd : (y == ("__classdict__" : Str)) = false := by decide) (hs : starEach (.Name y pos' :: es) X.env = (false, eval (.Name y pos') X.env) :: starEach es X.env := by rfl) : DAm X (.new :: ms) (.Name y pos' :: es) (aCons (eM i) r) :=
  ⟨(pa_cons (pe_var hN hv hd hcd) hr.pa hs).imp fun σ H Q ⟨G0, H0, G, ρ, ds, s, ed, q⟩ => by
    obtain ⟨d, e1, ed⟩ := bind_some ed
    obtain ⟨ds', e2, ed⟩ := bind_some ed
    cases ed
    unfold eM at e1
    split at e1
    · cases e1
      rename_i h
      obtain ⟨a, h1, h2, h3, h4⟩ := s.own h
      refine ⟨_, h1, G0, H0, G, ρ, ds', s, e2, fun G2 H2 vs gx2 r2 => q G2 H2 _ gx2 (.cons ?_ r2)⟩
      exact RM.mono gx2 (show RM X.K H0 H0 .new G H d (.ref a) from ⟨a, rfl, h2, h3, h4⟩)
    · cases e1⟩
def Fn1M (P : Program) (w : World) (K : PySem.W.Frag) (mg : Str → Option Value) (base : Heap) (x : Str) (ps : List Str) (k : Nat) (rm : Md) (ms : List Md) (F : List PyData → Option PyData) : Prop :=
  ∃ (f : Addr) (fd : FuncData), FnOk P w K mg base CX0 k f fd ps (spM K rm ms F) ∧ mg x = some (.ref f) ∧ PySem.W.keepIn K (.ref f) = true ∧ Binds K fd ps []
def sRetMov (F : List PyData → Option PyData) (r : SA) : SS := fun ρ => (r ρ).bind fun ds => (F ds).bind fun d => some (.rt d)
@[simp] theorem sRetMov_r {F : List PyData → Option PyData} {ρ : Rho} : sRetMov F r ρ = (r ρ).bind fun ds => (F ds).bind fun d => some (.rt d) := rfl
theorem s_retMov {pos2 : Pos} (F : Fn1M X.prog X.w X.K X.mg X.base x ps k rm ms Fn) (hr : Room k X.A) (ha : DAm X ms (e :: es) r) (hg : Gl X x := by rfl) (hdb : (x == ("__debug__" : Str)) = false := by decide) (he : starEach (e :: es) X.env = (false, eval e X.env) :: starEach es X.env := by rfl) (hpl : (backTo pos (starEach es X.env)).any (·.1) = false := by rfl) :
    DS X rm (.Return (some (.Call (.Name x p) (e :: es) [] pos)) pos2) (sRetMov Fn r) := by
  obtain ⟨f, fd, F, hm, hk, hb⟩ := F
  refine ⟨(ps_ret (pe_call F hr hg hm hk hb .nil pass0 ha.pa hdb he hpl)).imp fun D σ H ⟨G0, H0, G, ρ, o, s, ed, q⟩ => ?_⟩
  obtain ⟨ds, e1, ed⟩ := bind_some ed
  obtain ⟨d, e2, ed⟩ := bind_some ed
  cases ed
  refine ⟨G0, H0, G, ρ, ds, s, e1, fun G1 H1 vs gx1 ra => ?_⟩
  show spM X.K rm ms Fn (vs ++ []) H1 _ E0
  rw [List.append_nil]
  have s1 := s.gx' gx1
  exact ⟨ra.len.2, G1, H0, ds, d, ⟨Ex.refl _, s1.gx.h, s1.gx.gh, fun _ h => .inl h⟩, ra, e2, fun G2 H2 v gx2 r2 => q G2 H2 v ⟨s1.gx.g.trans gx2.g, gx2.h, gx2.gh, fun a ha => (gx2.nw a ha).elim (s1.gx.nw a) .inr⟩ r2⟩
end
end DV

namespace DV
open PySem L2 PySem.Spec PyProof.Rows
/-! ### dicts: keys ints and texts, or tuples of these (those begin with a mark) -/
def unK : PyData → Option Key
  | .int i => some (.inl i)
  | .str x => some (.inr x)
  | _ => none
theorem unK_key : ∀ k : Key, unK (keyD k) = some k
  | .inl _ => rfl
  | .inr _ => rfl
theorem unK_inv : ∀ {d : PyData} {k : Key}, unK d = some k → d = keyD k
  | .int i, k, h => by cases h; rfl
  | .str x, k, h => by cases h; rfl
def unKs : List PyData → Option (List Key)
  | [] => some []
  | d :: r => match unK d, unKs r with
    | some k, some ks => some (k :: ks)
    | _, _ => none
theorem unKs_keys : ∀ ks : List Key, unKs (ks.map keyD) = some ks
  | [] => rfl
  | k :: ks => by
    rw [List.map_cons, unKs, unK_key, unKs_keys ks]
theorem unKs_inv : ∀ {l : List PyData} {ks : List Key}, unKs l = some ks → l = ks.map keyD
  | [], ks, h => by cases h; rfl
  | d :: r, ks, h => by
    unfold unKs at h
    split at h
    · rename_i k ks' h1 h2
      cases h
      rw [List.map_cons, unK_inv h1, unKs_inv h2]
    · cases h
def unT : PyData → Option (List Key)
  | .tuple l => unKs l
  | _ => none
theorem unT_key (ks : List Key) : unT (keysD ks) = some ks := unKs_keys ks
theorem unT_inv : ∀ {d : PyData} {k : List Key}, unT d = some k → d = keysD k
  | .tuple l, k, h => by
    have h : unKs l = some k := h
    rw [unKs_inv h]; rfl
section
variable {κ : Type} [DecidableEq κ] (un : PyData → Option κ)
def valD : List (PyData × PyData) → κ → Option PyData
  | [], _ => none
  | p :: r, k => if un p.1 = some k then some p.2 else valD r k
def hasD : List (PyData × PyData) → κ → Bool
  | [], _ => false
  | p :: r, k => if un p.1 = some k then true else hasD r k
def repD : List (PyData × PyData) → κ → PyData → List (PyData × PyData)
  | [], _, _ => []
  | p :: r, k, v => (if un p.1 = some k then (p.1, v) else p) :: repD r k v
def putD (es : List (PyData × PyData)) (kd : PyData) (k : κ) (v : PyData) : List (PyData × PyData) := if hasD un es k = true then repD un es k v else es ++ [(kd, v)]
variable {kd : κ → PyData} {K : PySem.W.Frag} {G : Hp}
theorem valD_V (hun : ∀ k, un (kd k) = some k) : ∀ {es : List (PyData × PyData)} {ks : List (κ × V)}, es.map (·.1) = ks.map (fun p => kd p.1) → RepA K G (es.map (·.2)) (ks.map (·.2)) → ∀ k, (valD un es k = none ∧ valV ks k = none) ∨ ∃ d v, valD un es k = some d ∧ valV ks k = some v ∧ Rep K G d v
  | [], [], _, _, k => .inl ⟨rfl, rfl⟩
  | [], _ :: _, h, _, _ => by simp at h
  | _ :: _, [], h, _, _ => by simp at h
  | p :: es, q :: ks, h, r, k => by
    rw [List.map_cons, List.map_cons] at h
    injection h with h1 h2
    rw [List.map_cons, List.map_cons] at r
    cases r with
    | cons r1 r2 =>
      unfold valD
      rw [h1, hun]
      by_cases c : q.1 = k
      · rw [if_pos (by rw [c]), valV_pos c]
        exact .inr ⟨_, _, rfl, rfl, r1⟩
      · rw [if_neg (fun z => c (Option.some.inj z)), valV_neg c]
        exact valD_V hun h2 r2 k
theorem hasD_V (hun : ∀ k, un (kd k) = some k) : ∀ {es : List (PyData × PyData)} {ks : List (κ × V)}, es.map (·.1) = ks.map (fun p => kd p.1) → ∀ k, hasD un es k = ks.any fun p => decide (p.1 = k)
  | [], [], _, k => rfl
  | [], _ :: _, h, _ => by simp at h
  | _ :: _, [], h, _ => by simp at h
  | p :: es, q :: ks, h, k => by
    rw [List.map_cons, List.map_cons] at h
    injection h with h1 h2
    unfold hasD
    rw [h1, hun, List.any_cons]
    by_cases c : q.1 = k
    · rw [if_pos (by rw [c]), decide_eq_true c]; rfl
    · rw [if_neg (fun z => c (Option.some.inj z)), decide_eq_false c, Bool.false_or, hasD_V hun h2 k]
theorem repD_V (hun : ∀ k, un (kd k) = some k) {k : κ} {d : PyData} {v : V} (rv : Rep K G d v) : ∀ {es : List (PyData × PyData)} {ks : List (κ × V)}, es.map (·.1) = ks.map (fun p => kd p.1) → RepA K G (es.map (·.2)) (ks.map (·.2)) →
    (repD un es k d).map (·.1) = (ks.map fun kv => if kv.1 = k then (kv.1, v) else kv).map (fun p => kd p.1) ∧ RepA K G ((repD un es k d).map (·.2)) ((ks.map fun kv => if kv.1 = k then (kv.1, v) else kv).map (·.2))
  | [], [], _, _ => ⟨rfl, .nil⟩
  | [], _ :: _, h, _ => by simp at h
  | _ :: _, [], h, _ => by simp at h
  | p :: es, q :: ks, h, r => by
    rw [List.map_cons, List.map_cons] at h
    injection h with h1 h2
    rw [List.map_cons, List.map_cons] at r
    cases r with
    | cons r1 r2 =>
      obtain ⟨i1, i2⟩ := repD_V hun rv h2 r2
      unfold repD
      rw [List.map_cons, List.map_cons, List.map_cons, List.map_cons, List.map_cons]
      by_cases c : q.1 = k
      · rw [if_pos (by rw [h1, hun, c]), if_pos c]
        exact ⟨by rw [i1, h1], .cons rv i2⟩
      · rw [if_neg (fun z => c (by rw [h1, hun] at z; exact Option.some.inj z)), if_neg c]
        exact ⟨by rw [i1, h1], .cons r1 i2⟩
theorem putD_V (hun : ∀ k, un (kd k) = some k) {k : κ} {d : PyData} {v : V} (rv : Rep K G d v) {es : List (PyData × PyData)} {ks : List (κ × V)} (h : es.map (·.1) = ks.map (fun p => kd p.1)) (r : RepA K G (es.map (·.2)) (ks.map (·.2))) :
    (putD un es (kd k) k d).map (·.1) = (putK ks k v).map (fun p => kd p.1) ∧ RepA K G ((putD un es (kd k) k d).map (·.2)) ((putK ks k v).map (·.2)) := by
  unfold putD putK
  rw [hasD_V un hun h k]
  split
  · exact repD_V un hun rv h r
  · rw [List.map_append, List.map_append, List.map_append, List.map_append]
    exact ⟨by rw [h]; rfl, r.app (.cons rv .nil)⟩
end
/-- what stands in a dict at a key -/
def dGet : PyData → PyData → Option (Option PyData)
  | .dict ((.none, .none) :: es), k => (unT k).map (valD unT es)
  | .dict es, k => (unK k).map (valD unK es)
  | _, _ => none
def dPut : PyData → PyData → PyData → Option PyData
  | .dict ((.none, .none) :: es), k, v => (unT k).bind fun kk => if es.length < sizeLine then some (.dict ((.none, .none) :: putD unT es k kk v)) else none
  | .dict es, k, v => (unK k).bind fun kk => if es.length < sizeLine then some (.dict (putD unK es k kk v)) else none
  | _, _, _ => none
theorem keys_rep {K : PySem.W.Frag} {G : Hp} : ∀ {ks : List Key} {vs : List V}, RepA K G (ks.map keyD) vs → vs = ks.map kV
  | [], _, .nil => rfl
  | .inl i :: ks, _, .cons h t => by
    cases h
    rw [keys_rep t]; rfl
  | .inr i :: ks, _, .cons h t => by
    cases h
    rw [keys_rep t]; rfl
theorem key_rep {K : PySem.W.Frag} {G H : Hp} {k : PyData} {kk : Key} {y : V} (h : unK k = some kk) (r : RepB K G H k y) : y = kV kk := by
  rw [unK_inv h] at r
  cases kk with
  | inl i => exact r.int
  | inr x => exact r.str
theorem tkey_rep {K : PySem.W.Frag} {G H : Hp} {k : PyData} {kk : List Key} {y : V} (e : Ex G H) (h : unT k = some kk) (r : RepB K G H k y) : ∃ b, y = .ref b ∧ H b = some (.tup (kk.map kV)) := by
  rw [unT_inv h] at r
  cases r with
  | val r =>
    cases r with
    | tup h1 ra => exact ⟨_, rfl, by rw [e _ _ h1, keys_rep ra]⟩
theorem noneK {es : List (PyData × PyData)} {ks : List (Key × V)} (h : ((PyData.none, PyData.none) :: es).map (·.1) = ks.map (fun p => keyD p.1)) : False := by
  cases ks with
  | nil => simp at h
  | cons q ks =>
    rw [List.map_cons, List.map_cons] at h
    injection h with h1 h2
    obtain ⟨a, b⟩ := q
    cases a <;> cases h1
/-- a dict's data, by its keys -/
inductive DForm : PyData → Type where
  | t (es : List (PyData × PyData)) : DForm (.dict ((.none, .none) :: es))
theorem dict_ok {K : PySem.W.Frag} {G H : Hp} {d k : PyData} {x y : V} {o : Option PyData} (e : Ex G H) (rx : RepB K G H d x) (ry : RepB K G H k y) (h : dGet d k = some o) : ∃ a ov, x = .ref a ∧ IsD H a ∧ DGet H a y ov ∧ ((o = none ∧ ov = none) ∨ ∃ dv v, o = some dv ∧ ov = some v ∧ Rep K G dv v) := by
  have goK : ∀ (a : Addr) (ks : List (Key × V)) (es : List (PyData × PyData)), Rd H a (.dK ks) → es.map (·.1) = ks.map (fun p => keyD p.1) → RepA K G (es.map (·.2)) (ks.map (·.2)) → dGet (.dict es) k = some o → ∃ ov, IsD H a ∧ DGet H a y ov ∧ ((o = none ∧ ov = none) ∨ ∃ dv v, o = some dv ∧ ov = some v ∧ Rep K G dv v) := by
    intro a ks es rd hk ra hd
    have hd : (unK k).map (valD unK es) = some o := by
      unfold dGet at hd
      split at hd
      · rename_i z
        cases z
        exact (noneK hk).elim
      · rename_i z
        cases z
        exact hd
      · rename_i z1 z2
        exact absurd rfl (z2 _)
    obtain ⟨kk, hkk, rfl⟩ := map_some hd
    refine ⟨valV ks kk, .inl ⟨_, rd⟩, .inl ⟨ks, kk, rd, key_rep hkk ry, rfl⟩, ?_⟩
    rcases valD_V unK unK_key hk ra kk with ⟨z1, z2⟩ | ⟨dv, v, z1, z2, z3⟩
    · exact .inl ⟨z1, z2⟩
    · exact .inr ⟨dv, v, z1, z2, z3⟩
  have goT : ∀ (a : Addr) (ks : List (List Key × V)) (es : List (PyData × PyData)), Rd H a (.dT ks) → es.map (·.1) = ks.map (fun p => keysD p.1) → RepA K G (es.map (·.2)) (ks.map (·.2)) → dGet (.dict ((.none, .none) :: es)) k = some o → ∃ ov, IsD H a ∧ DGet H a y ov ∧ ((o = none ∧ ov = none) ∨ ∃ dv v, o = some dv ∧ ov = some v ∧ Rep K G dv v) := by
    intro a ks es rd hk ra hd
    have hd : (unT k).map (valD unT es) = some o := hd
    obtain ⟨kk, hkk, rfl⟩ := map_some hd
    obtain ⟨b, rfl, hb⟩ := tkey_rep e hkk ry
    refine ⟨valV ks kk, .inr ⟨_, rd⟩, .inr ⟨ks, kk, b, rd, rfl, hb, rfl⟩, ?_⟩
    rcases valD_V unT unT_key hk ra kk with ⟨z1, z2⟩ | ⟨dv, v, z1, z2, z3⟩
    · exact .inl ⟨z1, z2⟩
    · exact .inr ⟨dv, v, z1, z2, z3⟩
  cases rx with
  | val r =>
    cases r with
    | dK rd hk ra => exact (goK _ _ _ (e.rd (.inr rd)) hk ra h).elim fun ov q => ⟨_, ov, rfl, q⟩
    | dT rd hk ra => exact (goT _ _ _ (e.rd (.inr rd)) hk ra h).elim fun ov q => ⟨_, ov, rfl, q⟩
    | _ => cases h
  | lst => cases h
  | dK rd hk ra => exact (goK _ _ _ (.of rd) hk ra h).elim fun ov q => ⟨_, ov, rfl, q⟩
  | dT rd hk ra => exact (goT _ _ _ (.of rd) hk ra h).elim fun ov q => ⟨_, ov, rfl, q⟩
/-- an own dict is written -/
theorem dput_ok {K : PySem.W.Frag} {G H : Hp} {a : Addr} {d k dv d' : PyData} {y v : V} (e : Ex G H) (ow : Own K G H a d) (ry : RepB K G H k y) (rv : Rep K G dv v) (h : dPut d k dv = some d') : ∃ o, DPut H a y v (upd H a o) ∧ Own K G (upd H a o) a d' := by
  cases ow with
  | lst => cases h
  | @dK ks es ha hk ra =>
    have h : ((unK k).bind fun kk => if es.length < sizeLine then some (PyData.dict (putD unK es k kk dv)) else none) = some d' := by
      unfold dPut at h
      split at h
      · rename_i z
        cases z
        exact (noneK hk).elim
      · rename_i z
        cases z
        exact h
      · rename_i z1 z2
        exact absurd rfl (z2 _)
    obtain ⟨kk, hkk, h⟩ := bind_some h
    obtain ⟨hl, rfl⟩ := if_some h
    have hl2 : ks.length < sizeLine := by
      have := congrArg List.length hk
      rw [List.length_map, List.length_map] at this
      omega
    refine ⟨.dK (putK ks kk v), .inl ⟨ks, kk, ha, key_rep hkk ry, hl2, rfl⟩, ?_⟩
    obtain ⟨p1, p2⟩ := putD_V unK unK_key (k := kk) rv hk ra
    rw [← unK_inv hkk] at p1 p2
    exact .dK upd_same p1 p2
  | @dT ks es ha hk ra =>
    have h : ((unT k).bind fun kk => if es.length < sizeLine then some (PyData.dict ((.none, .none) :: putD unT es k kk dv)) else none) = some d' := h
    obtain ⟨kk, hkk, h⟩ := bind_some h
    obtain ⟨hl, rfl⟩ := if_some h
    obtain ⟨b, rfl, hb⟩ := tkey_rep e hkk ry
    have hl2 : ks.length < sizeLine := by
      have := congrArg List.length hk
      rw [List.length_map, List.length_map] at this
      omega
    refine ⟨.dT (putK ks kk v), .inr ⟨ks, kk, b, ha, rfl, hb, hl2, rfl⟩, ?_⟩
    obtain ⟨p1, p2⟩ := putD_V unT unT_key (k := kk) rv hk ra
    rw [← unT_inv hkk] at p1 p2
    exact .dT upd_same p1 p2
section
variable {X : Cx} {rm m : Md} {a b c e : Expr} {f g h : SE} {pos p1 apos : Pos} {k : Nat} {x : Str}
def oDGet (d k : PyData) : Option PyData := (dGet d k).bind id
theorem d_dget (hr : Room k X.A) (ha : DX X .bor a f) (hb : DX X .bor b g) (hs : NoSl b := by intro _ _; rfl) : DX X .val (.Subscript a b pos) (eOp oDGet f g) :=
  ⟨(pe_dget (hu_of hr) ha.pe hb.pe hs).imp fun σ H Q ⟨G0, H0, G, ρ, d, s, ed, q⟩ => by
    obtain ⟨d1, e1, ed⟩ := bind_some ed
    obtain ⟨d2, e2, ed⟩ := bind_some ed
    obtain ⟨o, e3, e4⟩ := bind_some ed
    have e4 : o = some d := e4
    refine ⟨G0, H0, G, ρ, d1, s, e1, fun G1 H1 u gx1 r1 => ⟨G0, H0, G1, ρ, d2, s.gx' gx1, e2, fun G2 H2 w gx2 r2 => ?_⟩⟩
    obtain ⟨a', ov, z1, z2, z3, z4⟩ := dict_ok gx2.gh (RepB.mono gx2.g gx2.h r1) r2 e3
    rcases z4 with ⟨z5, _⟩ | ⟨dv, v, z5, z6, z7⟩
    · rw [z5] at e4; cases e4
    · rw [z5] at e4; cases e4
      subst z6
      exact ⟨a', v, z1, z3, q G2 H2 v (gx1.trans gx2) z7⟩⟩
def oDIn (k d : PyData) : Option PyData := (dGet d k).map fun o => .bool o.isSome
def oDNotIn (k d : PyData) : Option PyData := (dGet d k).map fun o => .bool (!o.isSome)
theorem din_of : ∀ σ H Q, tE X.K .val (eOp oDIn g f) σ H Q → tDIn (tE X.K .bor g) (tE X.K .bor f) σ H Q := fun σ H Q ⟨G0, H0, G, ρ, d, s, ed, q⟩ => by
  obtain ⟨d1, e1, ed⟩ := bind_some ed
  obtain ⟨d2, e2, ed⟩ := bind_some ed
  obtain ⟨o, e3, rfl⟩ := map_some ed
  refine ⟨G0, H0, G, ρ, d1, s, e1, fun G1 H1 u gx1 r1 => ⟨G0, H0, G1, ρ, d2, s.gx' gx1, e2, fun G2 H2 w gx2 r2 => ?_⟩⟩
  obtain ⟨a', ov, z1, z2, z3, z4⟩ := dict_ok gx2.gh r2 (RepB.mono gx2.g gx2.h r1) e3
  refine ⟨a', ov, z1, z3, ?_⟩
  have : ov.isSome = o.isSome := by
    rcases z4 with ⟨z5, z6⟩ | ⟨dv, v, z5, z6, z7⟩ <;> rw [z5, z6] <;> rfl
  rw [this]
  exact q G2 H2 _ (gx1.trans gx2) (.bl _)
theorem dnotin_of : ∀ σ H Q, tE X.K .val (eOp oDNotIn g f) σ H Q → tDNotIn (tE X.K .bor g) (tE X.K .bor f) σ H Q := fun σ H Q ⟨G0, H0, G, ρ, d, s, ed, q⟩ => by
  obtain ⟨d1, e1, ed⟩ := bind_some ed
  obtain ⟨d2, e2, ed⟩ := bind_some ed
  obtain ⟨o, e3, rfl⟩ := map_some ed
  refine ⟨G0, H0, G, ρ, d1, s, e1, fun G1 H1 u gx1 r1 => ⟨G0, H0, G1, ρ, d2, s.gx' gx1, e2, fun G2 H2 w gx2 r2 => ?_⟩⟩
  obtain ⟨a', ov, z1, z2, z3, z4⟩ := dict_ok gx2.gh r2 (RepB.mono gx2.g gx2.h r1) e3
  refine ⟨a', ov, z1, z3, ?_⟩
  have : ov.isSome = o.isSome := by
    rcases z4 with ⟨z5, z6⟩ | ⟨dv, v, z5, z6, z7⟩ <;> rw [z5, z6] <;> rfl
  rw [this]
  exact q G2 H2 _ (gx1.trans gx2) (.bl _)
theorem d_din (hr : Room k X.A) (ha : DX X .bor a f) (hb : DX X .bor b g) (hm : behindInMarks .In b = false := by rfl) : DX X .val (.Compare a [.In] [b] pos) (eOp oDIn f g) := ⟨(pe_cmp (pc_din (hu_of hr) ha.pe hb.pe) hm).imp din_of⟩
theorem t_din (hr : Room k X.A) (ha : DX X .bor a f) (hb : DX X .bor b g) (hm : behindInMarks .In b = false := by rfl) : DT X (.Compare a [.In] [b] pos) (bT (eOp oDIn f g)) := ⟨(pt_cmp (pc_din (hu_of hr) ha.pe hb.pe) hm).imp (tTest_of din_of)⟩
theorem d_dnotin (hr : Room k X.A) (ha : DX X .bor a f) (hb : DX X .bor b g) (hm : behindInMarks .NotIn b = false := by rfl) : DX X .val (.Compare a [.NotIn] [b] pos) (eOp oDNotIn f g) := ⟨(pe_cmp (pc_dnotin (hu_of hr) ha.pe hb.pe) hm).imp dnotin_of⟩
theorem t_dnotin (hr : Room k X.A) (ha : DX X .bor a f) (hb : DX X .bor b g) (hm : behindInMarks .NotIn b = false := by rfl) : DT X (.Compare a [.NotIn] [b] pos) (bT (eOp oDNotIn f g)) := ⟨(pt_cmp (pc_dnotin (hu_of hr) ha.pe hb.pe) hm).imp (tTest_of dnotin_of)⟩
/-- d.get(y, x) -/
def oDGet2 (d : PyData) : List PyData → Option PyData
  | [k, x] => (dGet d k).map fun o => o.getD x
  | _ => none
theorem d_dget2 (hr : Room k X.A) (ha : DX X .bor a f) (hb : DX X .bor b g) (hc : DX X .val c h) (m : M2 X a "get" apos b c pos := by exact ⟨rfl, rfl, rfl, rfl⟩) : DX X .val (.Call (.Attribute a "get" apos) [b, c] [] pos) (eBm oDGet2 f (aCons g (aCons h aNil))) :=
  ⟨(pe_dget2 (hu_of hr) ha.pe hb.pe hc.pe m).imp fun σ H Q ⟨G0, H0, G, ρ, d, s, ed, q⟩ => by
    obtain ⟨d1, e1, ed⟩ := bind_some ed
    obtain ⟨ds, e2, ed⟩ := bind_some ed
    obtain ⟨d2, e3, e2⟩ := bind_some e2
    obtain ⟨ds2, e4, e2⟩ := bind_some e2
    obtain ⟨d3, e5, e4⟩ := bind_some e4
    cases e4
    cases e2
    obtain ⟨o, e6, rfl⟩ := map_some (show (dGet d1 d2).map (fun o => o.getD d3) = some d from ed)
    refine ⟨G0, H0, G, ρ, d1, s, e1, fun G1 H1 u gx1 r1 => ?_⟩
    have isd : ∃ a', u = .ref a' ∧ IsD H1 a' := by
      cases r1 with
      | val r =>
        cases r with
        | dK rd _ _ => exact ⟨_, rfl, .inl ⟨_, gx1.gh.rd (.inr rd)⟩⟩
        | dT rd _ _ => exact ⟨_, rfl, .inr ⟨_, gx1.gh.rd (.inr rd)⟩⟩
        | _ => cases e6
      | lst => cases e6
      | dK rd _ _ => exact ⟨_, rfl, .inl ⟨_, .of rd⟩⟩
      | dT rd _ _ => exact ⟨_, rfl, .inr ⟨_, .of rd⟩⟩
    obtain ⟨a', rfl, isd⟩ := isd
    refine ⟨a', rfl, isd, G0, H0, G1, ρ, d2, s.gx' gx1, e3, fun G2 H2 w gx2 r2 => ⟨G0, H0, G2, ρ, d3, (s.gx' gx1).gx' gx2, e5, fun G3 H3 z gx3 r3 => ?_⟩⟩
    have gx23 := gx2.trans gx3
    obtain ⟨a2, ov, z1, z2, z3, z4⟩ := dict_ok gx3.gh (RepB.mono gx23.g gx23.h r1) (RepB.mono gx3.g gx3.h r2) e6
    cases z1
    refine ⟨ov, z3, q G3 H3 _ (gx1.trans gx23) ?_⟩
    rcases z4 with ⟨z5, z6⟩ | ⟨dv, v, z5, z6, z7⟩
    · rw [z5, z6]; exact r3
    · rw [z5, z6]; exact z7⟩
theorem d_dnewK : DX X .new (.Dict [] [] pos) (eK (.dict [])) := ⟨pe_dnewK.imp fun σ H Q ⟨G0, H0, G, ρ, d, s, ed, q⟩ => by
  cases ed
  exact fun p np => q G _ _ (Gx.mine s.gx.gh np) ⟨p, rfl, np, s.gx.gh.back np, .dK upd_same rfl .nil⟩⟩
theorem d_dnewT : DX X .new (.Dict [] [] pos) (eK (.dict [(.none, .none)])) := ⟨pe_dnewT.imp fun σ H Q ⟨G0, H0, G, ρ, d, s, ed, q⟩ => by
  cases ed
  exact fun p np => q G _ _ (Gx.mine s.gx.gh np) ⟨p, rfl, np, s.gx.gh.back np, .dT upd_same rfl .nil⟩⟩
/-- d[k] = v -/
def sDPut (i : Nat) (fv fk : SE) : SS := fun ρ => match ρ[i]? with
  | some (.own d) => (fv ρ).bind fun v => (fk ρ).bind fun k => (dPut d k v).bind fun d' => some (.nx (ρ.set i (.own d')))
  | _ => none
theorem s_dput (i : Nat) {tpos : Pos} (hr : Room k X.A) (he : DX X .val e g) (hi : DX X .bor b f) (hN : X.N[i]? = some x := by rfl) (hv : Vis X.env.scope x := by first | exact Or.inl rfl | exact Or.inr (Or.inl rfl) | exact Or.inr (Or.inr rfl)) (hd : (x == ("__debug__" : Str)) = false := by decide)
    (hcd : (x == ("__classdict__" : Str)) = false := by decide) (hs : swapsWith e (some (.Subscript (.Name x p1) b tpos)) pos.line X.env = pure false := by rfl) : DS X rm (.Assign [.Subscript (.Name x p1) b tpos] e pos) (sDPut i g f) :=
  ⟨(ps_dput (hu_of hr) (pv i hN hv hd hcd) hi.pe he.pe hs).imp fun D σ H ⟨G0, H0, G, ρ, o, s, ed, q⟩ => by
    unfold sDPut at ed
    split at ed
    · rename_i d hd
      obtain ⟨v, e1, ed⟩ := bind_some ed
      obtain ⟨kd, e2, ed⟩ := bind_some ed
      obtain ⟨d', e3, ed⟩ := bind_some ed
      cases ed
      refine ⟨G0, H0, G, ρ, v, s, e1, fun G1 H1 u gx1 r1 => ?_⟩
      have s1 := s.gx' gx1
      obtain ⟨p, h1, h2, h3, h4⟩ := s1.own hd
      refine ⟨_, h1, G0, H0, G1, ρ, kd, s1, e2, fun G2 H2 y gx2 r2 => ?_⟩
      have s2 := s1.gx' gx2
      obtain ⟨p', k1, k2, k3, k4⟩ := s2.own hd
      rw [h1] at k1; cases k1
      obtain ⟨ho, z1, z2⟩ := dput_ok gx2.gh k4 r2 (Rep.mono gx2.g r1) e3
      exact ⟨p, _, rfl, z1, q G2 σ _ (gx1.g.trans gx2.g) (s2.write hd h1 k2 k3 z2)⟩
    · cases ed⟩
@[simp] theorem sDPut_r {i : Nat} {ρ : Rho} : sDPut i f g ρ = (match getS ρ i with
  | some (.own d) => (f ρ).bind fun v => (g ρ).bind fun k => (dPut d k v).bind fun d' => some (.nx (ρ.set i (.own d')))
  | _ => none) := by rw [getS_eq]; rfl
end
end DV

namespace DV
open PySem L2 PySem.Spec PyProof.Rows
/-! ### tuple + tuple, slices of tuples -/
theorem tup_rep {K : PySem.W.Frag} {G H : Hp} {ds : List PyData} {v : V} (h : RepB K G H (.tuple ds) v) : ∃ a vs, v = .ref a ∧ G a = some (.tup vs) ∧ RepA K G ds vs := by
  cases h with
  | val h =>
    cases h with
    | tup h r => exact ⟨_, _, rfl, h, r⟩
def oTCat : PyData → PyData → Option PyData
  | .tuple xs, .tuple ys => if xs.length + ys.length ≤ sizeLine then some (.tuple (xs ++ ys)) else none
  | _, _ => none
theorem repA_nil {K : PySem.W.Frag} {G : Hp} {ds : List PyData} (h : RepA K G ds []) : ds = [] := by cases h; rfl
theorem opf_tcat {K : PySem.W.Frag} : OpF K .val (rCatA K) oTCat := fun G H d1 d2 d x y Q e r1 r2 h q => by
  unfold oTCat at h
  split at h
  · obtain ⟨hl, rfl⟩ := if_some h
    obtain ⟨a, vs, rfl, ha, ra⟩ := tup_rep r1
    obtain ⟨b, us, rfl, hb, rb⟩ := tup_rep r2
    refine ⟨a, b, vs, us, rfl, rfl, e.sqt (sqtOf ha), e.sqt (sqtOf hb), by rw [← ra.len, ← rb.len]; exact hl, fun z => ?_, fun _ z => ?_, fun _ _ p np => ?_⟩
    · subst z
      rw [repA_nil ra, List.nil_append] at q
      exact q G H _ (Gx.refl e) fun _ => .tup hb rb
    · subst z
      rw [repA_nil rb, List.append_nil] at q
      exact q G H _ (Gx.refl e) fun _ => .tup ha ra
    · exact q _ _ _ (Gx.new e np) fun _ => .tup upd_same ((ra.app rb).mono (Ex.new (e.back np)))
  · cases h
def oSlT (d : PyData) (lo hi : Option Int) : Option PyData := match d with
  | .tuple ds => some (.tuple (cutD ds lo hi))
  | _ => none
section
variable {X : Cx} {rm m : Md} {e a : Expr} {f g : SE} {lo hi : Option Expr} {gl gh : SO} {p2 pos cpos apos : Pos}
theorem d_sliceT (ha : DX X .bor e f) (hl : DO X lo gl) (hu : DO X hi gh) : DX X .val (.Subscript e (.Slice lo hi none p2) pos) (eSl oSlT f gl gh) :=
  ⟨(pe_slice sl_tupA ha.pe hl.po hu.po).imp (sl_three (mo := .bor) (fun G0 H0 G1 H1 G H d1 d lo hi x Q e gx r1 h q => by
    unfold oSlT at h
    split at h
    · rename_i ds
      cases h
      obtain ⟨a, vs, rfl, h1, ra⟩ := tup_rep r1
      refine ⟨a, vs, rfl, e.sqt (sqtOf h1), fun z => ?_, fun _ p np => ?_⟩
      · have : cutD ds lo hi = ds := by
          unfold cutD
          rw [ra.len, z.1, z.2, List.drop_zero, Nat.sub_zero, ← ra.len, List.take_length]
        rw [this] at q
        exact q G H _ (Gx.refl e) (.tup h1 ra)
      · exact q _ _ _ (Gx.new e np) (.tup upd_same ((ra.cut lo hi).mono (Ex.new (e.back np))))
    · cases h) fun h => h)⟩
/-- f(..).append(x): a new list that nobody keeps -/
def sAppTmp (f g : SE) : SS := fun ρ => (f ρ).bind fun d => match d with
  | .list l => (g ρ).bind fun _ => if l.length < sizeLine then some (.nx ρ) else none
  | _ => none
theorem s_appTmp {o : Expr} (ho : DX X .new o f) (ha : DX X .val a g)
    (hbase : attributeBase o "append" X.env (eval o X.env) = eval o X.env := by rfl)
    (hfew : ((backTo cpos (starEach (a :: []) X.env)).all (fun x => !x.1) && (backToKw cpos (keywordEach [] X.env)).all (fun x => x.1.isSome)
      && decide ((a :: []).length + ([] : List Keyword).length + (if ([] : List Keyword).isEmpty then 0 else 1) < 30)) = true := by rfl)
    (hline : (apos.endLine == cpos.line) = true := by rfl) (hs : starEach (a :: []) X.env = (false, eval a X.env) :: starEach [] X.env := by rfl) (hplain : (backTo cpos (starEach [] X.env)).any (·.1) = false := by rfl)
    (hsw : swapsWith (.Call (.Attribute o "append" apos) [a] [] cpos) none pos.line X.env = pure false := by rfl) :
    DS X rm (.Expr (.Call (.Attribute o "append" apos) [a] [] cpos) pos) (sAppTmp f g) :=
  ⟨(ps_expr (pe_bm PySem.F.plainAttrs_list PySem.F.slot_list_append PySem.F.type_list_append mt_append ho.pe (a_cons ha a_nil hs).pa hbase hfew hline hs hplain) hsw).imp fun D σ H ⟨G0, H0, G, ρ, o, s, ed, q⟩ => by
    obtain ⟨d, e1, ed⟩ := bind_some ed
    split at ed
    · rename_i l
      obtain ⟨d2, e2, ed⟩ := bind_some ed
      obtain ⟨hl, ed⟩ := if_some ed
      subst ed
      refine ⟨G0, H0, G, ρ, _, s, e1, fun G1 H1 u gx1 r1 => ?_⟩
      obtain ⟨p, rfl, hp, hg, ow⟩ := r1
      obtain ⟨vs, hv, rl⟩ := own_list ow
      refine ⟨.inl ⟨rfl, _, SqL.of hv⟩, G0, H0, G1, ρ, [d2], s.gx' gx1, ?_, fun G2 H2 us gx2 ra => ?_⟩
      · show (g ρ).bind _ = _
        rw [e2]; rfl
      · cases ra with
        | cons r2 t =>
          cases t
          have hv2 := gx2.h _ _ hv
          refine ⟨p, vs, _, rfl, rfl, hv2, by rw [← rl.len]; exact hl, ?_⟩
          have hg2 : G2 p = none := by
            cases z : G2 p with
            | none => rfl
            | some w =>
              rcases gx2.nw p (by rw [z]; simp) with y | y
              · exact absurd hg y
              · rw [hv] at y; exact (show False from y).elim
          have x12 := gx1.trans gx2
          exact q G2 σ _ x12.g (s.gx' ⟨x12.g, x12.h.mut hp, x12.gh.mut hg2, x12.nw⟩)
    · cases ed⟩
end
@[simp] theorem sAppTmp_r {f g : SE} {ρ : Rho} : sAppTmp f g ρ = (f ρ).bind fun d => match d with
  | .list l => (g ρ).bind fun _ => if l.length < sizeLine then some (.nx ρ) else none
  | _ => none := rfl
end DV

namespace DV
open PySem L2 PySem.Spec PyProof.Rows
/-! ### == of dicts -/
def shapedAll : List PyData → Bool
  | [] => true
  | d :: r => SeqAt.shaped d && shapedAll r
theorem shapedAll_get : ∀ {l : List PyData}, shapedAll l = true → ∀ d ∈ l, SeqAt.shaped d = true
  | [], _, d, h => by cases h
  | e :: r, c, d, h => by
    have c' : SeqAt.shaped e = true ∧ shapedAll r = true := by simpa [shapedAll] using c
    rcases List.mem_cons.mp h with rfl | h
    · exact c'.1
    · exact shapedAll_get c'.2 d h
def eqvD : List (PyData × PyData) → List (PyData × PyData) → Bool
  | [], _ => true
  | p :: es, ls => (match (unK p.1).bind (valD unK ls) with
    | some v => PyData.eqv p.2 v
    | none => false) && eqvD es ls
def oDEq (ne : Bool) : PyData → PyData → Option PyData
  | .dict es, .dict ls => if (unKs (es.map (·.1))).isSome = true ∧ (unKs (ls.map (·.1))).isSome = true ∧ shapedAll (es.map (·.2)) = true ∧ shapedAll (ls.map (·.2)) = true then some (.bool (xor ne (es.length == ls.length && eqvD es ls))) else none
  | _, _ => none
def rDEq (K : PySem.W.Frag) (ne : Bool) : R2 := fun x y H Q => ∃ a b ks ls es fs, x = .ref a ∧ y = .ref b ∧ Rd H a (.dK ks) ∧ Rd H b (.dK ls) ∧ es.map (·.1) = ks.map (fun p => keyD p.1) ∧ fs.map (·.1) = ls.map (fun p => keyD p.1) ∧ DpAll K H (ks.map (·.2)) (es.map (·.2)) ∧ DpAll K H (ls.map (·.2)) (fs.map (·.2)) ∧ shapedAll (es.map (·.2)) = true ∧ shapedAll (fs.map (·.2)) = true ∧ Q (.bl (xor ne (es.length == fs.length && eqvD es fs))) H
theorem valD_dp {K : PySem.W.Frag} {H : Hp} : ∀ {fs : List (PyData × PyData)} {ls : List (Key × V)}, fs.map (·.1) = ls.map (fun p => keyD p.1) → DpAll K H (ls.map (·.2)) (fs.map (·.2)) → shapedAll (fs.map (·.2)) = true → ∀ k, (valD unK fs k = none ∧ valV ls k = none) ∨ ∃ d v, valD unK fs k = some d ∧ valV ls k = some v ∧ Dp K H v d ∧ SeqAt.shaped d = true
  | [], [], _, _, _, k => .inl ⟨rfl, rfl⟩
  | [], _ :: _, h, _, _, _ => by simp at h
  | _ :: _, [], h, _, _, _ => by simp at h
  | p :: fs, q :: ls, h, r, c, k => by
    rw [List.map_cons, List.map_cons] at h
    injection h with h1 h2
    rw [List.map_cons, List.map_cons] at r
    have c' : SeqAt.shaped p.2 = true ∧ shapedAll (fs.map (·.2)) = true := by simpa [shapedAll] using c
    cases r with
    | cons r1 r2 =>
      unfold valD
      rw [h1, unK_key]
      by_cases c2 : q.1 = k
      · rw [if_pos (by rw [c2]), valV_pos c2]
        exact .inr ⟨_, _, rfl, rfl, r1, c'.1⟩
      · rw [if_neg (fun z => c2 (Option.some.inj z)), valV_neg c2]
        exact valD_dp h2 r2 c'.2 k
theorem hits_dp {X : Cx} {pins : List (Addr × Obj)} {σ : L2.St} {H : Hp} {s : Shared} (I : Inv X pins σ H s) {A : Around} (hu : A.in1.units + 64 < cLine) {fs : List (PyData × PyData)} {ls : List (Key × V)} {vb : List (Key × Value)} (rb : KV ls vb) (hk : fs.map (·.1) = ls.map (fun p => keyD p.1)) (dp : DpAll X.K H (ls.map (·.2)) (fs.map (·.2))) (sh : shapedAll (fs.map (·.2)) = true) :
    ∀ {ks : List (Key × V)} {va : List (Key × Value)} {es : List (PyData × PyData)}, KV ks va → es.map (·.1) = ks.map (fun p => keyD p.1) → DpAll X.K H (ks.map (·.2)) (es.map (·.2)) → shapedAll (es.map (·.2)) = true → PySem.W.KeqHits A.in1 s vb va (eqvD es fs) := by
  intro ks va es ra
  unfold KV at ra
  induction ra generalizing es with
  | nil =>
    intro h _ _
    cases es with
    | nil => exact .nil
    | cons _ _ => simp at h
  | @cons p q ps qs h t ih =>
    intro hke r c
    cases es with
    | nil => simp at hke
    | cons e es =>
      rw [List.map_cons, List.map_cons] at hke
      injection hke with e1 e2
      rw [List.map_cons, List.map_cons] at r
      have c' : SeqAt.shaped e.2 = true ∧ shapedAll (es.map (·.2)) = true := by simpa [shapedAll] using c
      cases r with
      | cons r1 r2 =>
        obtain ⟨h1, h2⟩ := h
        obtain ⟨key, v⟩ := q
        have h1' : p.1 = key := h1
        have ih' := ih e2 r2 c'.2
        have rel := rb.val p.1
        unfold eqvD
        rw [e1, unK_key, Option.bind_some]
        rcases valD_dp hk dp sh p.1 with ⟨z1, z2⟩ | ⟨d, w, z1, z2, z3, z4⟩
        · rw [z1]
          rw [z2] at rel
          have hn := rel.none_of
          rw [h1'] at hn
          simp only [Bool.false_and]
          exact .miss hn
        · rw [z1]
          rw [z2] at rel
          obtain ⟨y, hy, ry⟩ := rel.some_of
          rw [h1'] at hy
          obtain ⟨as, q1⟩ := Dp.reads I _ _ _ r1 h2
          obtain ⟨bs, q2⟩ := Dp.reads I _ _ _ z3 ry
          exact .hit hy (PySem.W.keq_at q1 q2 c'.1 z4 hu) ih'
theorem len_of_map {α β γ : Type} {l : List α} {m : List β} {f : α → γ} {g : β → γ} (h : l.map f = m.map g) : l.length = m.length := by
  have := congrArg List.length h
  rw [List.length_map, List.length_map] at this
  exact this
theorem op_deq {X : Cx} (hu : X.A.units + 65 < cLine) : OpR X (compareOp .Eq) (rDEq X.K false) := by
  intro pins s σ H x y v u Q I rx ry h
  obtain ⟨a, b, ks, ls, es, fs, rfl, rfl, ha, hb, h1, h2, d1, d2, s1, s2, q⟩ := h
  obtain rfl : v = Value.ref a := rx
  obtain rfl : u = Value.ref b := ry
  obtain ⟨_, ya, va, ra, da⟩ := dk_rd I.hok ha
  obtain ⟨_, yb, vb, rb, db⟩ := dk_rd I.hok hb
  have l1 := len_of_map h1
  have l2 := len_of_map h2
  have l3 := ra.length
  have l4 := rb.length
  refine PySem.W.keq_eq (knd := mixKind X.prog X.w) (r := eqvD es fs) ya yb da db (by omega) (fun _ => hits_dp I (by show X.A.units + 1 + 64 < cLine; omega) rb h2 d2 s2 ra h1 d1 s1) ⟨.bl _, H, I, ?_, q⟩
  rw [l1, l2, l3, l4]
  show Value.bool _ = Value.bool _
  simp
theorem op_dne {X : Cx} (hu : X.A.units + 65 < cLine) : OpR X (compareOp .NotEq) (rDEq X.K true) := by
  intro pins s σ H x y v u Q I rx ry h
  obtain ⟨a, b, ks, ls, es, fs, rfl, rfl, ha, hb, h1, h2, d1, d2, s1, s2, q⟩ := h
  obtain rfl : v = Value.ref a := rx
  obtain rfl : u = Value.ref b := ry
  obtain ⟨_, ya, va, ra, da⟩ := dk_rd I.hok ha
  obtain ⟨_, yb, vb, rb, db⟩ := dk_rd I.hok hb
  have l1 := len_of_map h1
  have l2 := len_of_map h2
  have l3 := ra.length
  have l4 := rb.length
  refine PySem.W.keq_ne (knd := mixKind X.prog X.w) (r := eqvD es fs) ya yb da db (by omega) (fun _ => hits_dp I (by show X.A.units + 1 + 64 < cLine; omega) rb h2 d2 s2 ra h1 d1 s1) ⟨.bl _, H, I, ?_, q⟩
  rw [l1, l2, l3, l4]
  show Value.bool _ = Value.bool _
  simp
theorem shaped_canAll : ∀ {l : List PyData}, shapedAll l = true → PyData.canLayAll0 l = true
  | [], _ => by simp [PyData.canLayAll0]
  | d :: r, c => by
    have c' : SeqAt.shaped d = true ∧ shapedAll r = true := by simpa [shapedAll] using c
    simp [PyData.canLayAll0, SeqAt.canLay_of_shaped c'.1, shaped_canAll c'.2]
theorem dk_rep {K : PySem.W.Frag} {G H : Hp} (e : Ex G H) {es : List (PyData × PyData)} {v : V} (hk : (unKs (es.map (·.1))).isSome = true) (r : RepB K G H (.dict es) v) : ∃ a ks, v = .ref a ∧ Rd H a (.dK ks) ∧ es.map (·.1) = ks.map (fun p => keyD p.1) ∧ RepA K G (es.map (·.2)) (ks.map (·.2)) := by
  have noT : ∀ {es' : List (PyData × PyData)}, es = (.none, .none) :: es' → False := fun z => by
    subst z
    simp [unKs, unK] at hk
  cases r with
  | val r =>
    cases r with
    | dK h k ra => exact ⟨_, _, rfl, e.rd (.inr h), k, ra⟩
    | dT h k ra => exact (noT rfl).elim
  | dK h k ra => exact ⟨_, _, rfl, .inl h, k, ra⟩
  | dT h k ra => exact (noT rfl).elim
theorem opf_deq {K : PySem.W.Frag} (ne : Bool) : OpF K .val (rDEq K ne) (oDEq ne) := fun G H d1 d2 d x y Q e r1 r2 h q => by
  unfold oDEq at h
  split at h
  · obtain ⟨⟨c1, c2, c3, c4⟩, rfl⟩ := if_some h
    obtain ⟨a, ks, rfl, ha, h1, ra⟩ := dk_rep e c1 r1
    obtain ⟨b, ls, rfl, hb, h2, rb⟩ := dk_rep e c2 r2
    exact ⟨a, b, ks, ls, _, _, rfl, rfl, ha, hb, h1, h2, ra.dp e (shaped_canAll c3), rb.dp e (shaped_canAll c4), c3, c4, q G H _ (Gx.refl e) fun _ => .bl _⟩
  · cases h
/-! ### a dict is walked -/
def keysOf : PyData → Option (List PyData)
  | .dict ((.none, .none) :: es) => some (es.map (·.1))
  | .dict es => some (es.map (·.1))
  | _ => none
def sKeys (f : SE) : SI := fun ρ => (f ρ).bind keysOf
section
variable {K : PySem.W.Frag} {B G H : Hp} {ds : List PyData} {a : Addr} {o : Obj}
theorem rep_key (k : Key) : Rep K G (keyD k) (kV k) := by
  cases k with
  | inl i => exact .int i
  | inr x => exact .str x
theorem rep_keys : ∀ ks : List Key, RepA K G (ks.map keyD) (ks.map kV)
  | [] => .nil
  | k :: ks => .cons (rep_key k) (rep_keys ks)
theorem WalkD.keys {ks : List (Key × V)} (h : G a = some (.frz o (.dK ks))) (e : ds = ks.map fun p => keyD p.1) : WalkD K B G (Itk a o ks) ds where
  goes := fun i G2 H2 hi g1 g2 b => ⟨g2 _ _ (g1 _ _ h), by rw [e, List.length_map] at hi; exact hi⟩
  stops := fun G2 H2 g1 g2 b => ⟨g2 _ _ (g1 _ _ h), by rw [e, List.length_map]; exact Nat.le_refl _⟩
  yields := fun i d G2 H2 x H3 hi g1 g2 b y => by
    obtain ⟨rfl, k, v, hk, rfl⟩ := y
    refine ⟨G2, Gx.refl g2, ?_⟩
    rw [e, List.getElem?_map, hk] at hi
    cases hi
    exact rep_key k
theorem WalkD.keysT {ks : List (List Key × V)} (h : G a = some (.frz o (.dT ks))) (e : ds = ks.map fun p => keysD p.1) : WalkD K B G (Itkt a o ks) ds where
  goes := fun i G2 H2 hi g1 g2 b => ⟨g2 _ _ (g1 _ _ h), by rw [e, List.length_map] at hi; exact hi⟩
  stops := fun G2 H2 g1 g2 b => ⟨g2 _ _ (g1 _ _ h), by rw [e, List.length_map]; exact Nat.le_refl _⟩
  yields := fun i d G2 H2 x H3 hi g1 g2 b y => by
    obtain ⟨rfl, k, v, q, hk, rfl, hq⟩ := y
    rw [e, List.getElem?_map, hk] at hi
    cases hi
    by_cases n : G2 q = none
    · refine ⟨upd G2 q (.tup (k.map kV)), ⟨Ex.new n, Ex.refl _, fun b u hb => ?_, fun b hb => ?_⟩, .tup upd_same (rep_keys k)⟩
      · by_cases z : b = q
        · subst z; rw [upd_same] at hb; rw [hq]; exact hb
        · rw [upd_ne z] at hb; exact g2 _ _ hb
      · by_cases z : b = q
        · subst z; rw [hq]; exact .inr trivial
        · rw [upd_ne z] at hb; exact .inl hb
    · refine ⟨G2, Gx.refl g2, .tup ?_ (rep_keys k)⟩
      cases z : G2 q with
      | none => exact absurd z n
      | some u => rw [g2 _ _ z] at hq; exact hq
end
section
variable {X : Cx} {rm m : Md} {a b c e tg : Expr} {f g h : SE} {pos p1 apos : Pos} {k : Nat} {x : Str}
theorem i_keys (ha : DX X .val e f) : DI X tg e false (sKeys f) := ⟨(pi_keys ha.pe).imp fun σ H R ⟨G0, H0, G, ρ, ds, s, ed, q⟩ => by
  obtain ⟨d, e1, e2⟩ := bind_some ed
  refine ⟨G0, H0, G, ρ, d, s, e1, fun G' H' v gx r => ?_⟩
  cases (show Rep X.K G' d v from r) with
  | @dK a ks es h hk ra =>
    obtain ⟨o, h⟩ := h
    refine ⟨a, o, rfl, .inl ⟨ks, gx.gh _ _ h, q G' H' _ gx (WalkD.keys h ?_)⟩⟩
    unfold keysOf at e2
    split at e2
    · rename_i z
      cases z
      exact (noneK hk).elim
    · rename_i z
      cases z
      cases e2
      exact hk
    · cases e2
  | @dT a ks es h hk ra =>
    obtain ⟨o, h⟩ := h
    refine ⟨a, o, rfl, .inr ⟨ks, gx.gh _ _ h, q G' H' _ gx (WalkD.keysT h ?_)⟩⟩
    cases e2
    exact hk
  | _ => cases e2⟩
@[simp] theorem sKeys_r {ρ : Rho} : sKeys f ρ = (f ρ).bind keysOf := rfl
/-! ### {k: v, ..} -/
def mergeD : List (PyData × PyData) → List (PyData × PyData) → Option (List (PyData × PyData))
  | acc, [] => some acc
  | acc, p :: r => (unK p.1).bind fun k => mergeD (putD unK acc p.1 k p.2) r
theorem mergeD_V {K : PySem.W.Frag} {G : Hp} : ∀ {es acc : List (PyData × PyData)} {kvs : List (Key × V)} {ks : List V} {vs : List V} {out : List (PyData × PyData)}, acc.map (·.1) = kvs.map (fun p => keyD p.1) → RepA K G (acc.map (·.2)) (kvs.map (·.2)) → RepA K G (es.map (·.1)) ks → RepA K G (es.map (·.2)) vs → mergeD acc es = some out →
    ∃ more : List (Key × V), ks.zip vs = more.map (fun kv => (kV kv.1, kv.2)) ∧ more.length = es.length ∧ out.map (·.1) = (mergeK kvs more).map (fun p => keyD p.1) ∧ RepA K G (out.map (·.2)) ((mergeK kvs more).map (·.2))
  | [], acc, kvs, ks, vs, out, h, r, ra, rb, e => by
    cases e
    rw [List.map_nil] at ra rb
    cases ra
    exact ⟨[], rfl, rfl, h, r⟩
  | p :: es, acc, kvs, ks, vs, out, h, r, ra, rb, e => by
    rw [List.map_cons] at ra rb
    cases ra with
    | @cons _ _ k ks rk rks =>
    cases rb with
    | @cons _ _ v vs rv rvs =>
    obtain ⟨kk, e1, e2⟩ := bind_some e
    rw [unK_inv e1] at e2
    obtain ⟨p1, p2⟩ := putD_V unK unK_key (k := kk) rv h r
    obtain ⟨more, m1, m2, m3, m4⟩ := mergeD_V p1 p2 rks rvs e2
    refine ⟨(kk, v) :: more, ?_, congrArg (· + 1) m2, m3, m4⟩
    rw [List.zip_cons_cons, List.map_cons, m1]
    have : k = kV kk := key_rep (H := G) e1 (.val rk)
    rw [this]
def eDsp (l : List (SE × SE)) : SE := fun ρ => (pairsD l ρ).bind fun es => if es.length ≤ 15 then (mergeD [] es).map .dict else none
where pairsD : List (SE × SE) → Rho → Option (List (PyData × PyData))
  | [], _ => some []
  | p :: r, ρ => (p.1 ρ).bind fun k => (p.2 ρ).bind fun v => (pairsD r ρ).map fun l => (k, v) :: l
structure DP (X : Cx) (pos : Pos) (keys : List (Option Expr)) (values : List Expr) (l : List (SE × SE)) : Prop where
  pps : ∃ trs, PPs X pos keys values trs ∧ ∀ (σ : L2.St) (H : Hp) (G0 : Fr) (H0 G : Hp) (ρ : Rho) (es : List (PyData × PyData)) (Q : List (V × V) → Hp → Prop), Sok X.K G0 H0 G ρ σ H → eDsp.pairsD l ρ = some es →
    (∀ G' H' ks vs, Gx G H G' H' → RepA X.K G' (es.map (·.1)) ks → RepA X.K G' (es.map (·.2)) vs → Q (ks.zip vs) H') → tPairs trs σ H Q
theorem dp_nil : DP X pos [] [] [] := ⟨[], pps_nil, fun σ H G0 H0 G ρ es Q s e q => by
  cases e
  exact q G H [] [] (Gx.refl s.gx.gh) .nil .nil⟩
theorem dp_cons {keys : List (Option Expr)} {values : List Expr} {l : List (SE × SE)} (hk : DX X .val a f) (hv : DX X .val b g) (hr : DP X pos keys values l) : DP X pos (some a :: keys) (b :: values) ((f, g) :: l) := by
  obtain ⟨trs, hp, w⟩ := hr.pps
  refine ⟨(tE X.K .val f, tE X.K .val g) :: trs, pps_cons hk.pe hv.pe hp, fun σ H G0 H0 G ρ es Q s e q => ?_⟩
  obtain ⟨d1, e1, e⟩ := bind_some e
  obtain ⟨d2, e2, e⟩ := bind_some e
  obtain ⟨es', e3, rfl⟩ := map_some e
  refine ⟨G0, H0, G, ρ, d1, s, e1, fun G1 H1 k gx1 r1 => ⟨G0, H0, G1, ρ, d2, s.gx' gx1, e2, fun G2 H2 v gx2 r2 => ?_⟩⟩
  refine w σ H2 G0 H0 G2 ρ es' _ ((s.gx' gx1).gx' gx2) e3 fun G3 H3 ks vs gx3 ra rb => ?_
  exact q G3 H3 (k :: ks) (v :: vs) ((gx1.trans gx2).trans gx3) (.cons (Rep.mono (gx2.trans gx3).g r1) ra) (.cons (Rep.mono gx3.g r2) rb)
theorem d_dsp {keys : List (Option Expr)} {values : List Expr} {l : List (SE × SE)} (h : DP X pos keys values l) (hall : keys.all (·.isSome) = true := by rfl) (hl : keys.length = values.length := by rfl) (h0 : keys ≠ [] := by simp)
    (h15 : keys.length ≤ 15 := by decide) : DX X .new (.Dict keys values pos) (eDsp l) := by
  obtain ⟨trs, hp, w⟩ := h.pps
  refine ⟨(pe_disp hp hall hl h0 h15).imp fun σ H Q ⟨G0, H0, G, ρ, d, s, ed, q⟩ => ?_⟩
  obtain ⟨es, e1, ed⟩ := bind_some ed
  have ed : (if es.length ≤ 15 then (mergeD [] es).map PyData.dict else none) = some d := ed
  split at ed
  · rename_i h15'
    obtain ⟨out, e2, rfl⟩ := map_some ed
    intro p np
    have gx0 : Gx G H G (upd H p (.dK [])) := Gx.mine s.gx.gh np
    have g0 : G p = none := s.gx.gh.back np
    refine w σ _ G0 H0 G ρ es _ (s.gx' gx0) e1 fun G1 H1 ks vs gx1 ra rb => ?_
    have hp1 : H1 p = some (.dK []) := gx1.h _ _ upd_same
    have g1 : G1 p = none := by
      cases z : G1 p with
      | none => rfl
      | some u =>
        rcases gx1.nw p (by rw [z]; simp) with y | y
        · exact absurd g0 y
        · rw [upd_same] at y; exact (show False from y).elim
    obtain ⟨more, m1, m2, m3, m4⟩ := mergeD_V (acc := []) (kvs := []) rfl .nil ra rb e2
    refine ⟨hp1, more, m1, by omega, ?_⟩
    have x01 := gx0.trans gx1
    exact q G1 _ _ ⟨x01.g, x01.h.mut np, x01.gh.mut g1, x01.nw⟩ ⟨p, rfl, np, g1, .dK upd_same m3 m4⟩
  · cases ed
/-! ### max and min of three -/
def cMax3 : List PyData → Option PyData
  | [.int i, .int j, .int l] => some (.int (max (max i j) l))
  | _ => none
def cMin3 : List PyData → Option PyData
  | [.int i, .int j, .int l] => some (.int (min (min i j) l))
  | _ => none
theorem RepBA.three {K : PySem.W.Frag} {G H : Hp} {d1 d2 d3 : PyData} {vs : List V} (h : RepBA K G H [d1, d2, d3] vs) : ∃ v w z, vs = [v, w, z] ∧ RepB K G H d1 v ∧ RepB K G H d2 w ∧ RepB K G H d3 z := by
  cases h with
  | cons h t => cases t with
    | cons h2 t2 => cases t2 with
      | cons h3 t3 => cases t3; exact ⟨_, _, _, rfl, h, h2, h3⟩
theorem cf_max3 {K : PySem.W.Frag} : CallF K .val (rNuC3 nuMax3) cMax3 := fun G H ds d vs Q e r h q => by
  unfold cMax3 at h
  split at h
  · rename_i i j l
    cases h
    obtain ⟨v, w, z, rfl, r1, r2, r3⟩ := r.three
    cases r1.int
    cases r2.int
    cases r3.int
    refine ⟨_, _, _, .int (max (max i j) l), rfl, ?_, q G H _ (Gx.refl e) fun _ => .int _⟩
    have e2 : ∀ a b : Int, nuMax2 (.int a) (.int b) = some (.int (max a b)) := fun a b => by
      show some (if decide (a < b) = true then V.int b else V.int a) = _
      by_cases c : a < b
      · rw [decide_eq_true c, if_pos rfl, Int.max_eq_right (by omega)]
      · rw [decide_eq_false c, if_neg Bool.false_ne_true, Int.max_eq_left (by omega)]
    unfold nuMax3
    rw [e2, Option.bind_some, e2]
  · cases h
theorem bor3 : ∀ m ∈ [Md.bor, Md.bor, Md.bor], m = .bor := b_cons' bor2
/-! ### len of a dict -/
def cLenD : List PyData → Option PyData
  | [.dict ((.none, .none) :: es)] => some (.int (es.length : Nat))
  | [.dict es] => some (.int (es.length : Nat))
  | _ => none
def rLenD : List V → Hp → VK → Prop := fun xs H Q => ∃ (p : Addr) (n : Nat), xs = [.ref p] ∧ ((∃ kvs, Rd H p (.dK kvs) ∧ n = kvs.length) ∨ ∃ kvs, Rd H p (.dT kvs) ∧ n = kvs.length) ∧ Q (.int (n : Nat)) H
theorem call_lenD : CallR X (.builtin "len") rLenD := by
  intro pins s σ H xs us Q I r h
  obtain ⟨p, n, rfl, hp, q⟩ := h
  obtain ⟨u, rfl, rx⟩ := vals1 r
  obtain rfl : u = .ref p := rx
  rcases hp with ⟨kvs, hp, rfl⟩ | ⟨kvs, hp, rfl⟩
  · obtain ⟨z, hd, ys, rel, dd⟩ := dk_rd I.hok hp
    have hl := rel.length
    refine PySem.call_len_dict hd dd (by rw [← hl]; rw [sizeLine_eq] at z; omega) ?_
    rw [← hl]
    exact ⟨.int ((kvs.length : Nat) : Int), H, I.tok _, ⟨_, rfl⟩, q⟩
  · obtain ⟨z, hd, ys, rel, dd⟩ := dt_rd I.hok hp
    have hl : kvs.length = ys.length := Paired.length rel
    refine PySem.call_len_dictH hd dd (by rw [← hl]; rw [sizeLine_eq] at z; omega) ?_
    rw [← hl]
    exact ⟨.int ((kvs.length : Nat) : Int), H, I.tok _, ⟨_, rfl⟩, q⟩
theorem cf_lenD {K : PySem.W.Frag} : CallF K .val rLenD cLenD := fun G H ds d vs Q e r h q => by
  have key : ∀ {dd : PyData} {v : V}, RepB K G H dd v → cLenD [dd] = some d → ∃ p n, v = .ref p ∧ d = .int (n : Nat) ∧ ((∃ kvs, Rd H p (.dK kvs) ∧ n = kvs.length) ∨ ∃ kvs, Rd H p (.dT kvs) ∧ n = kvs.length) := fun {dd v} r1 h => by
    have kk : ∀ (a : Addr) (ks : List (Key × V)) (es : List (PyData × PyData)), Rd H a (.dK ks) → es.map (·.1) = ks.map (fun p => keyD p.1) → cLenD [.dict es] = some d → ∃ p n, V.ref a = .ref p ∧ d = .int (n : Nat) ∧ ((∃ kvs, Rd H p (.dK kvs) ∧ n = kvs.length) ∨ ∃ kvs, Rd H p (.dT kvs) ∧ n = kvs.length) := fun a ks es rd hk h => by
      unfold cLenD at h
      split at h
      · rename_i z
        cases z
        exact (noneK hk).elim
      · rename_i z
        cases z
        cases h
        exact ⟨a, ks.length, rfl, by rw [len_of_map hk], .inl ⟨ks, rd, rfl⟩⟩
      · cases h
    have tt : ∀ (a : Addr) (ks : List (List Key × V)) (es : List (PyData × PyData)), Rd H a (.dT ks) → es.map (·.1) = ks.map (fun p => keysD p.1) → cLenD [.dict ((.none, .none) :: es)] = some d → ∃ p n, V.ref a = .ref p ∧ d = .int (n : Nat) ∧ ((∃ kvs, Rd H p (.dK kvs) ∧ n = kvs.length) ∨ ∃ kvs, Rd H p (.dT kvs) ∧ n = kvs.length) := fun a ks es rd hk h => by
      cases h
      exact ⟨a, ks.length, rfl, by rw [len_of_map hk], .inr ⟨ks, rd, rfl⟩⟩
    cases r1 with
    | val r1 =>
      cases r1 with
      | dK h1 k ra => exact kk _ _ _ (e.rd (.inr h1)) k h
      | dT h1 k ra => exact tt _ _ _ (e.rd (.inr h1)) k h
      | _ => cases h
    | lst _ _ => cases h
    | dK h1 k ra => exact kk _ _ _ (.inl h1) k h
    | dT h1 k ra => exact tt _ _ _ (.inl h1) k h
  cases ds with
  | nil => cases h
  | cons d1 t =>
    cases t with
    | nil =>
      obtain ⟨v, rfl, r1⟩ := r.one
      obtain ⟨p, n, rfl, rfl, z⟩ := key r1 h
      exact ⟨p, n, rfl, z, q G H _ (Gx.refl e) fun _ => .int _⟩
    | cons d2 t =>
      exfalso
      unfold cLenD at h
      split at h
      · rename_i z; cases z
      · rename_i z; cases z
      · cases h
end
end DV

namespace Lw
open PySem L2 DV
/-! ### the text -/
def topS (i : Nat) : Stmt := PySem.Challenge.pw_quirekiln_k21_bounded_widths.main.body.getD i (.Pass ⟨0, 0, 0, 0⟩)
abbrev s__law_plain_style : Stmt := topS 8
abbrev N__law_plain_style : List Str := ["scale", "style", "name"]
theorem sc__law_plain_style : FnScope N__law_plain_style ["scale"] (defScope s__law_plain_style) := ⟨rfl, rfl, rfl, by decide +kernel, rfl, by decide +kernel, by decide +kernel⟩
abbrev s__law_mixed : Stmt := topS 5
abbrev N__law_mixed : List Str := ["cell", "once", "twice"]
theorem sc__law_mixed : FnScope N__law_mixed ["cell"] (defScope s__law_mixed) := ⟨rfl, rfl, rfl, by decide +kernel, rfl, by decide +kernel, by decide +kernel⟩
abbrev s__law_box_style : Stmt := topS 9
abbrev N__law_box_style : List Str := ["number", "scale", "style", "part"]
theorem sc__law_box_style : FnScope N__law_box_style ["number", "scale"] (defScope s__law_box_style) := ⟨rfl, rfl, rfl, by decide +kernel, rfl, by decide +kernel, by decide +kernel⟩
abbrev s__law_source : Stmt := topS 6
abbrev N__law_source : List Str := ["cell"]
theorem sc__law_source : FnScope N__law_source ["cell"] (defScope s__law_source) := ⟨rfl, rfl, rfl, by decide +kernel, rfl, by decide +kernel, by decide +kernel⟩
abbrev s__law_cell : Stmt := topS 4
abbrev N__law_cell : List Str := ["script", "k"]
theorem sc__law_cell : FnScope N__law_cell ["script", "k"] (defScope s__law_cell) := ⟨rfl, rfl, rfl, by decide +kernel, rfl, by decide +kernel, by decide +kernel⟩
abbrev s_frame : Stmt := topS 1
abbrev N_frame : List Str := ["style"]
theorem sc_frame : FnScope N_frame ["style"] (defScope s_frame) := ⟨rfl, rfl, rfl, by decide +kernel, rfl, by decide +kernel, by decide +kernel⟩
abbrev s_bounded : Stmt := topS 2
abbrev N_bounded : List Str := ["style", "width"]
theorem sc_bounded : FnScope N_bounded ["style", "width"] (defScope s_bounded) := ⟨rfl, rfl, rfl, by decide +kernel, rfl, by decide +kernel, by decide +kernel⟩
abbrev s__law_is_integer : Stmt := topS 7
abbrev N__law_is_integer : List Str := ["value"]
theorem sc__law_is_integer : FnScope N__law_is_integer ["value"] (defScope s__law_is_integer) := ⟨rfl, rfl, rfl, by decide +kernel, rfl, by decide +kernel, by decide +kernel⟩
abbrev s_law : Stmt := topS 10
abbrev N_law : List Str := ["script", "style", "number", "around", "room", "handed", "name", "told", "sides"]
theorem sc_law : FnScope N_law ["script"] (defScope s_law) := ⟨rfl, rfl, rfl, by decide +kernel, rfl, by decide +kernel, by decide +kernel⟩
/-! ### the functions on data -/
noncomputable section
def L__law_plain_style_1 : SS :=
  (sDPut 1 (eK (.int 0)) (eB 2))
def L__law_plain_style_2 : SS :=
  (sDPut 1 (eK (.int 0)) (eB 2))
def L__law_plain_style_3 : SS :=
  (sDPut 1 (eK (.int 1)) (eB 2))
/-- _law_plain_style(scale): slots 0 scale, 1 style, 2 name -/
def B__law_plain_style : SS :=
  (sSeqn (sOwn 1 (eDsp [((eK (.str "display")), (eK (.str "block"))), ((eK (.str "place")), (eK (.str "flow"))), ((eK (.str "left")), (eK (.int 0))), ((eK (.str "top")), (eK (.int 0))), ((eK (.str "width")), (eK (.str "auto"))), ((eK (.str "height")), (eK (.str "auto")))]))
  (sSeqn (sDPut 1 (eK (.int 0)) (eK (.str "least_width")))
  (sSeqn (sDPut 1 (eK (.int 1000)) (eK (.str "most_width")))
  (sSeqn (sFor (sSeq (eLst (aCons (eK (.str "margin_left")) (aCons (eK (.str "margin_right")) (aCons (eK (.str "margin_top")) (aCons (eK (.str "margin_bottom")) (aCons (eK (.str "padding")) (aCons (eK (.str "border")) (aCons (eK (.str "background")) aNil))))))))) (gV 2) L__law_plain_style_1)
  (sSeqn (sFor (sSeq (eLst (aCons (eK (.str "lead")) (aCons (eK (.str "grow")) (aCons (eK (.str "gap")) (aCons (eK (.str "level")) aNil)))))) (gV 2) L__law_plain_style_2)
  (sSeqn (sFor (sSeq (eLst (aCons (eK (.str "border_color")) (aCons (eK (.str "color")) (aCons (eK (.str "shrink")) aNil))))) (gV 2) L__law_plain_style_3)
  (sSeqn (sDPut 1 (eV 0) (eK (.str "size")))
  (sSeqn (sDPut 1 (eK (.str "left")) (eK (.str "align")))
  (sSeqn (sDPut 1 (eK (.int 2)) (eK (.str "columns")))
  (sSeqn (sDPut 1 (eK (.str "open")) (eK (.str "clip")))
  (sSeqn (sDPut 1 (eK (.str "one")) (eK (.str "wrap")))
  (sSeqn (sDPut 1 (eK (.int 1)) (eK (.str "span")))
  (sRetOwn 1)))))))))))))
def F__law_plain_style : List PyData → Option PyData := box (runF 3 .new [.val] B__law_plain_style)
/-- _law_mixed(cell): slots 0 cell, 1 once, 2 twice -/
def B__law_mixed : SS :=
  (sSeqn (sSet 1 (eOp oMod (eCall cInt (aCons (eOp oAdd (eOp oMulS (eB 0) (eK (.int 48271))) (eK (.int 12345))) aNil)) (eK (.int 2147483647))))
  (sSeqn (sSet 2 (eOp oMod (eCall cInt (aCons (eOp oAdd (eOp oAdd (eOp oMulS (eB 1) (eB 1)) (eOp oMulS (eK (.int 7)) (eB 1))) (eK (.int 3))) aNil)) (eK (.int 2305843009213693951))))
  (sRet (eOp oMod (eCall cInt (aCons (eOp oAdd (eOp oMulS (eB 2) (eK (.int 16807))) (eK (.int 11))) aNil)) (eK (.int 2305843009213693951))))))
def F__law_mixed : List PyData → Option PyData := box (runF 3 .val [.bor] B__law_mixed)
/-- _law_box_style(number, scale): slots 0 number, 1 scale, 2 style, 3 part -/
def B__law_box_style : SS :=
  (sSeqn (sOwn 2 (eCall F__law_plain_style (aCons (eV 1) aNil)))
  (sSeqn (sDPut 2 (eOp oIx (eLst (aCons (eK (.str "block")) (aCons (eK (.str "row")) (aCons (eK (.str "grid")) (aCons (eK (.str "lines")) (aCons (eK (.str "block")) (aCons (eK (.str "row")) (aCons (eK (.str "none")) aNil)))))))) (eOp oMod (eCall cInt (aCons (eB 0) aNil)) (eK (.int 7)))) (eK (.str "display")))
  (sSeqn (sDPut 2 (eOp oIx (eLst (aCons (eK (.str "flow")) (aCons (eK (.str "flow")) (aCons (eK (.str "flow")) (aCons (eK (.str "shifted")) (aCons (eK (.str "free")) aNil)))))) (eOp oMod (eCall cInt (aCons (eOp oFdiv (eB 0) (eK (.int 7))) aNil)) (eK (.int 5)))) (eK (.str "place")))
  (sSeqn (sSet 0 (eOp oFdiv (eB 0) (eK (.int 35))))
  (sSeqn (sSet 3 (eTup (aCons (eK (.str "part")) (aCons (eOp oMod (eCall cInt (aCons (eOp oFdiv (eB 0) (eK (.int 5))) aNil)) (eK (.int 101))) aNil))))
  (sSeqn (sDPut 2 (eOp oIx (eLst (aCons (eK (.str "auto")) (aCons (eK (.str "auto")) (aCons (eK (.str "auto")) (aCons (eOp oMod (eCall cInt (aCons (eOp oFdiv (eB 0) (eK (.int 5))) aNil)) (eK (.int 1001))) (aCons (eV 3) aNil)))))) (eOp oMod (eCall cInt (aCons (eB 0) aNil)) (eK (.int 5)))) (eK (.str "width")))
  (sSeqn (sSet 0 (eOp oFdiv (eB 0) (eK (.int 5005))))
  (sSeqn (sDPut 2 (eOp oIx (eLst (aCons (eK (.int 0)) (aCons (eK (.int 0)) (aCons (eOp oMod (eCall cInt (aCons (eOp oFdiv (eB 0) (eK (.int 4))) aNil)) (eK (.int 1001))) (aCons (eOp oMod (eCall cInt (aCons (eOp oFdiv (eB 0) (eK (.int 4))) aNil)) (eK (.int 30))) aNil))))) (eOp oMod (eCall cInt (aCons (eB 0) aNil)) (eK (.int 4)))) (eK (.str "least_width")))
  (sSeqn (sDPut 2 (eOp oIx (eLst (aCons (eK (.int 1000)) (aCons (eK (.int 1000)) (aCons (eOp oMod (eCall cInt (aCons (eOp oFdiv (eB 0) (eK (.int 16016))) aNil)) (eK (.int 1001))) (aCons (eOp oMod (eCall cInt (aCons (eOp oFdiv (eB 0) (eK (.int 16016))) aNil)) (eK (.int 60))) aNil))))) (eOp oMod (eCall cInt (aCons (eOp oFdiv (eB 0) (eK (.int 4004))) aNil)) (eK (.int 4)))) (eK (.str "most_width")))
  (sSeqn (sSet 0 (eCall F__law_mixed (aCons (eB 0) aNil)))
  (sSeqn (sDPut 2 (eOp oIx (eLst (aCons (eK (.int 0)) (aCons (eOp oMod (eCall cInt (aCons (eOp oFdiv (eB 0) (eK (.int 3))) aNil)) (eK (.int 9))) (aCons (eOp oMod (eCall cInt (aCons (eOp oFdiv (eB 0) (eK (.int 3))) aNil)) (eK (.int 101))) aNil)))) (eOp oMod (eCall cInt (aCons (eB 0) aNil)) (eK (.int 3)))) (eK (.str "margin_left")))
  (sSeqn (sDPut 2 (eOp oIx (eLst (aCons (eK (.int 0)) (aCons (eOp oMod (eCall cInt (aCons (eOp oFdiv (eB 0) (eK (.int 909))) aNil)) (eK (.int 9))) (aCons (eOp oMod (eCall cInt (aCons (eOp oFdiv (eB 0) (eK (.int 909))) aNil)) (eK (.int 101))) aNil)))) (eOp oMod (eCall cInt (aCons (eOp oFdiv (eB 0) (eK (.int 303))) aNil)) (eK (.int 3)))) (eK (.str "margin_right")))
  (sSeqn (sSet 0 (eOp oFdiv (eB 0) (eK (.int 91809))))
  (sSeqn (sDPut 2 (eOp oIx (eLst (aCons (eK (.int 0)) (aCons (eOp oMod (eCall cInt (aCons (eOp oFdiv (eB 0) (eK (.int 3))) aNil)) (eK (.int 9))) (aCons (eOp oMod (eCall cInt (aCons (eOp oFdiv (eB 0) (eK (.int 3))) aNil)) (eK (.int 101))) aNil)))) (eOp oMod (eCall cInt (aCons (eB 0) aNil)) (eK (.int 3)))) (eK (.str "padding")))
  (sSeqn (sDPut 2 (eOp oIx (eLst (aCons (eK (.int 0)) (aCons (eOp oMod (eCall cInt (aCons (eOp oFdiv (eB 0) (eK (.int 909))) aNil)) (eK (.int 9))) (aCons (eOp oMod (eCall cInt (aCons (eOp oFdiv (eB 0) (eK (.int 909))) aNil)) (eK (.int 101))) aNil)))) (eOp oMod (eCall cInt (aCons (eOp oFdiv (eB 0) (eK (.int 303))) aNil)) (eK (.int 3)))) (eK (.str "border")))
  (sSeqn (sDPut 2 (eK (.int 5)) (eK (.str "margin_top")))
  (sSeqn (sDPut 2 (eOp oMod (eCall cInt (aCons (eOp oFdiv (eB 0) (eK (.int 91809))) aNil)) (eK (.int 101))) (eK (.str "gap")))
  (sSeqn (sDPut 2 (eOp oAdd (eK (.int 1)) (eOp oMod (eCall cInt (aCons (eOp oFdiv (eB 0) (eK (.int 9272709))) aNil)) (eK (.int 10)))) (eK (.str "columns")))
  (sRetOwn 2)))))))))))))))))))
def F__law_box_style : List PyData → Option PyData := box (runF 4 .new [.bor, .val] B__law_box_style)
/-- _law_source(cell): slots 0 cell -/
def B__law_source : SS :=
  (sSeqn (sIf (bT (eOp oGe (eB 0) (eOp oPow (eK (.int 10)) (eK (.int 18)))))
    (sRet (eOp oSub (eB 0) (eOp oPow (eK (.int 10)) (eK (.int 18)))))
    sNext)
  (sRet (eCall F__law_mixed (aCons (eB 0) aNil))))
def F__law_source : List PyData → Option PyData := box (runF 1 .val [.bor] B__law_source)
/-- _law_cell(script, k): slots 0 script, 1 k -/
def B__law_cell : SS :=
  (sSeqn (sIf (bT (eOp oLt (eB 1) (eCall cLen (aCons (eS 0) aNil))))
    (sRet (eOp oIx (eS 0) (eV 1)))
    sNext)
  (sRet (eK (.int 0))))
def F__law_cell : List PyData → Option PyData := box (runF 2 .val [.scr, .val] B__law_cell)
/-- frame(style): slots 0 style -/
def B_frame : SS :=
  (sRet (eOp oAdd (eOp oDGet (eB 0) (eK (.str "border"))) (eOp oDGet (eB 0) (eK (.str "padding")))))
def F_frame : List PyData → Option PyData := box (runF 1 .val [.bor] B_frame)
/-- bounded(style, width): slots 0 style, 1 width -/
def B_bounded : SS :=
  (sRet (eCall cMax3 (aCons (eCall cMin2 (aCons (eB 1) (aCons (eOp oDGet (eB 0) (eK (.str "most_width"))) aNil))) (aCons (eOp oDGet (eB 0) (eK (.str "least_width"))) (aCons (eOp oMulS (eK (.int 2)) (eCall F_frame (aCons (eB 0) aNil))) aNil)))))
def F_bounded : List PyData → Option PyData := box (runF 2 .val [.bor, .bor] B_bounded)
/-- _law_is_integer(value): slots 0 value -/
def B__law_is_integer : SS :=
  (sRet (eAnd (eIs "int" (eB 0)) (eNot (eIs "bool" (eB 0)))))
def F__law_is_integer : List PyData → Option PyData := box (runF 1 .val [.bor] B__law_is_integer)
def L_law_1 : SS :=
  (sDPut 5 (eOp oDGet (eB 1) (eB 6)) (eB 6))
/-- law(script): slots 0 script, 1 style, 2 number, 3 around, 4 room, 5 handed, 6 name, 7 told, 8 sides -/
def B_law : SS :=
  (sSeqn (sSet 1 (eCall F__law_box_style (aCons (eCall F__law_source (aCons (eCall F__law_cell (aCons (eS 0) (aCons (eK (.int 0)) aNil))) aNil)) (aCons (eK (.int 2)) aNil))))
  (sSeqn (sSet 2 (eCall F__law_source (aCons (eCall F__law_cell (aCons (eS 0) (aCons (eK (.int 1)) aNil))) aNil)))
  (sSeqn (sSet 3 (eLst (aCons (eOp oDGet (eB 1) (eK (.str "least_width"))) (aCons (eOp oDGet (eB 1) (eK (.str "most_width"))) (aCons (eOp oAdd (eOp oMulS (eK (.int 2)) (eOp oDGet (eB 1) (eK (.str "border")))) (eOp oMulS (eK (.int 2)) (eOp oDGet (eB 1) (eK (.str "padding"))))) (aCons (eK (.int 0)) aNil))))))
  (sSeqn (sSet 4 (eOp oSub (eOp oAdd (eOp oIx (eB 3) (eOp oMod (eCall cInt (aCons (eOp oFdiv (eB 2) (eK (.int 4))) aNil)) (eK (.int 4)))) (eOp oMod (eCall cInt (aCons (eOp oFdiv (eB 2) (eK (.int 16))) aNil)) (eK (.int 3)))) (eK (.int 1))))
  (sSeqn (sIf (bT (eOp oEq (eOp oMod (eCall cInt (aCons (eB 2) aNil)) (eK (.int 4))) (eK (.int 0))))
    (sSet 4 (eOp oSub (eOp oMod (eCall cInt (aCons (eOp oFdiv (eB 2) (eK (.int 16))) aNil)) (eK (.int 4001))) (eK (.int 2000))))
    sNext)
  (sSeqn (sIf (bT (eOp oEq (eOp oMod (eCall cInt (aCons (eB 2) aNil)) (eK (.int 16))) (eK (.int 5))))
    (sSet 4 (eOp oMulS (eB 4) (eOp oPow (eK (.int 10)) (eK (.int 9)))))
    sNext)
  (sSeqn (sIf (bT (eOp oEq (eOp oMod (eCall cInt (aCons (eB 2) aNil)) (eK (.int 16))) (eK (.int 7))))
    (sSet 4 (eOp oMod (eCall cInt (aCons (eOp oFdiv (eB 2) (eK (.int 16))) aNil)) (eOp oPow (eK (.int 10)) (eK (.int 8)))))
    sNext)
  (sSeqn (sOwn 5 (eK (.dict [])))
  (sSeqn (sFor (sKeys (eV 1)) (gV 6) L_law_1)
  (sSeqn (sSet 7 (eCall F_bounded (aCons (eB 5) (aCons (eB 4) aNil))))
  (sSeqn (sSet 8 (eCall F_frame (aCons (eB 5) aNil)))
  (sSeqn (sIf (bOr (bNot (bV (eCall F__law_is_integer (aCons (eB 7) aNil)))) (bOr (bNot (bV (eCall F__law_is_integer (aCons (eB 8) aNil)))) (bT (eOp (oDEq true) (eB 5) (eB 1)))))
    (sRet (eK (.bool false)))
    sNext)
  (sSeqn (sIf (bOr (bT (eOp oNe (eB 8) (eOp oAdd (eOp oDGet (eB 1) (eK (.str "border"))) (eOp oDGet (eB 1) (eK (.str "padding")))))) (bOr (bT (eOp oLt (eB 7) (eOp oDGet (eB 1) (eK (.str "least_width"))))) (bT (eOp oLt (eB 7) (eOp oMulS (eK (.int 2)) (eB 8))))))
    (sRet (eK (.bool false)))
    sNext)
  (sSeqn (sIf (bAnd (bT (eOp oGt (eB 7) (eOp oDGet (eB 1) (eK (.str "most_width"))))) (bAnd (bT (eOp oNe (eB 7) (eOp oDGet (eB 1) (eK (.str "least_width"))))) (bT (eOp oNe (eB 7) (eOp oMulS (eK (.int 2)) (eB 8))))))
    (sRet (eK (.bool false)))
    sNext)
  (sSeqn (sIf (bAnd (bT (eOp oGt (eB 7) (eB 4))) (bAnd (bT (eOp oNe (eB 7) (eOp oDGet (eB 1) (eK (.str "least_width"))))) (bT (eOp oNe (eB 7) (eOp oMulS (eK (.int 2)) (eB 8))))))
    (sRet (eK (.bool false)))
    sNext)
  (sSeqn (sIf (bAnd (bT (eOp oLt (eB 7) (eB 4))) (bT (eOp oLt (eB 7) (eOp oDGet (eB 1) (eK (.str "most_width"))))))
    (sRet (eK (.bool false)))
    sNext)
  (sRet (eAnd (eOp oEq (eCall F_bounded (aCons (eB 5) (aCons (eB 7) aNil))) (eB 7)) (eOp (oDEq false) (eB 5) (eB 1))))))))))))))))))))
def F_law : List PyData → Option PyData := box (runF 9 .val [.scr] B_law)
end
/-! ### the walks -/
section
variable {P : Program} {w : World} {K : PySem.W.Frag} {mg : Str → Option Value} {base : Heap}
theorem ok__law_plain_style {f : Addr} {fd : FuncData} (F : Fun K "_law_plain_style" "_law_plain_style" s__law_plain_style f fd) :
    FnOk P w K mg base CX0 1 f fd ["scale"] (spD K .new [.val] F__law_plain_style) :=
  fn_okB (b := B__law_plain_style) F sc__law_plain_style rfl rfl (am_val am_nil) (fun cdv A outer s H E hr =>
    (b_cons (s_own 1 sc__law_plain_style.nd (d_dsp (dp_cons d_str d_str (dp_cons d_str d_str (dp_cons d_str d_int (dp_cons d_str d_int (dp_cons d_str d_str (dp_cons d_str d_str dp_nil))))))))
    (b_cons (s_dput 1 hr d_int (d_b d_str))
    (b_cons (s_dput 1 hr d_int (d_b d_str))
    (b_cons (s_for PassesOwn.never rfl (i_val (d_fz (d_lst (a_cons d_str (a_cons d_str (a_cons d_str (a_cons d_str (a_cons d_str (a_cons d_str (a_cons d_str a_nil))))))) (v_cons (v_cons (v_cons (v_cons (v_cons (v_cons (v_cons v_nil)))))))))) (g_name 2 sc__law_plain_style.nd)
      (b_one (s_dput 1 hr d_int (d_varb 2))))
    (b_cons (s_for PassesOwn.never rfl (i_val (d_fz (d_lst (a_cons d_str (a_cons d_str (a_cons d_str (a_cons d_str a_nil)))) (v_cons (v_cons (v_cons (v_cons v_nil))))))) (g_name 2 sc__law_plain_style.nd)
      (b_one (s_dput 1 hr d_int (d_varb 2))))
    (b_cons (s_for PassesOwn.never rfl (i_val (d_fz (d_lst (a_cons d_str (a_cons d_str (a_cons d_str a_nil))) (v_cons (v_cons (v_cons v_nil)))))) (g_name 2 sc__law_plain_style.nd)
      (b_one (s_dput 1 hr d_int (d_varb 2))))
    (b_cons (s_dput 1 hr (d_var 0) (d_b d_str))
    (b_cons (s_dput 1 hr d_str (d_b d_str))
    (b_cons (s_dput 1 hr d_int (d_b d_str))
    (b_cons (s_dput 1 hr d_str (d_b d_str))
    (b_cons (s_dput 1 hr d_str (d_b d_str))
    (b_cons (s_dput 1 hr d_int (d_b d_str))
    (b_one (s_retOwn 1)))))))))))))))
theorem ok__law_mixed {f : Addr} {fd : FuncData} (F : Fun K "_law_mixed" "_law_mixed" s__law_mixed f fd) (z_int : mg "int" = none) :
    FnOk P w K mg base CX0 1 f fd ["cell"] (spD K .val [.bor] F__law_mixed) :=
  fn_okB (b := B__law_mixed) F sc__law_mixed rfl rfl (am_bor am_nil) (fun cdv A outer s H E hr =>
    (b_cons (s_set 1 sc__law_mixed.nd (d_op op_mod (opf_intIf _ _) (d_b (d_callTy call_int1 cf_int bor1 (by rfl) z_int PyProof.Rows.boot_int (a_cons (d_b (d_op op_addAll opf_addAll (d_b (d_op op_mulAll opf_mulAll (d_varb 0) (d_b d_int))) (d_b d_int))) a_nil))) (d_b d_int)))
    (b_cons (s_set 2 sc__law_mixed.nd (d_op op_mod (opf_intIf _ _) (d_b (d_callTy call_int1 cf_int bor1 (by rfl) z_int PyProof.Rows.boot_int (a_cons (d_b (d_op op_addAll opf_addAll (d_b (d_op op_addAll opf_addAll (d_b (d_op op_mulAll opf_mulAll (d_varb 1) (d_varb 1))) (d_b (d_op op_mulAll opf_mulAll (d_b d_int) (d_varb 1))))) (d_b d_int))) a_nil))) (d_b d_int)))
    (b_one (s_ret (d_op op_mod (opf_intIf _ _) (d_b (d_callTy call_int1 cf_int bor1 (by rfl) z_int PyProof.Rows.boot_int (a_cons (d_b (d_op op_addAll opf_addAll (d_b (d_op op_mulAll opf_mulAll (d_varb 2) (d_b d_int))) (d_b d_int))) a_nil))) (d_b d_int)))))))
theorem ok__law_box_style {f : Addr} {fd : FuncData} (F : Fun K "_law_box_style" "_law_box_style" s__law_box_style f fd) (C__law_plain_style : Fn1 P w K mg base "_law_plain_style" ["scale"] 1 .new [.val] F__law_plain_style) (C__law_mixed : Fn1 P w K mg base "_law_mixed" ["cell"] 1 .val [.bor] F__law_mixed) (z_int : mg "int" = none) :
    FnOk P w K mg base CX0 2 f fd ["number", "scale"] (spD K .new [.bor, .val] F__law_box_style) :=
  fn_okB (b := B__law_box_style) F sc__law_box_style rfl rfl (am_bor (am_val am_nil)) (fun cdv A outer s H E hr =>
    (b_cons (s_own 2 sc__law_box_style.nd (d_fn C__law_plain_style (hr.mono (by decide)) (a_cons (d_var 1) a_nil) (am_val am_nil)))
    (b_cons (s_dput 2 hr (d_ix (d_b (d_lst (a_cons d_str (a_cons d_str (a_cons d_str (a_cons d_str (a_cons d_str (a_cons d_str (a_cons d_str a_nil))))))) (v_cons (v_cons (v_cons (v_cons (v_cons (v_cons (v_cons v_nil))))))))) (d_b (d_op op_mod (opf_intIf _ _) (d_b (d_callTy call_int1 cf_int bor1 (by rfl) z_int PyProof.Rows.boot_int (a_cons (d_varb 0) a_nil))) (d_b d_int)))) (d_b d_str))
    (b_cons (s_dput 2 hr (d_ix (d_b (d_lst (a_cons d_str (a_cons d_str (a_cons d_str (a_cons d_str (a_cons d_str a_nil))))) (v_cons (v_cons (v_cons (v_cons (v_cons v_nil))))))) (d_b (d_op op_mod (opf_intIf _ _) (d_b (d_callTy call_int1 cf_int bor1 (by rfl) z_int PyProof.Rows.boot_int (a_cons (d_b (d_op op_fdivW opf_fdiv (d_varb 0) (d_b d_int))) a_nil))) (d_b d_int)))) (d_b d_str))
    (b_cons (s_set 0 sc__law_box_style.nd (d_op op_fdivW opf_fdiv (d_varb 0) (d_b d_int)))
    (b_cons (s_set 3 sc__law_box_style.nd (d_tup (a_cons d_str (a_cons (d_op op_mod (opf_intIf _ _) (d_b (d_callTy call_int1 cf_int bor1 (by rfl) z_int PyProof.Rows.boot_int (a_cons (d_b (d_op op_fdivW opf_fdiv (d_varb 0) (d_b d_int))) a_nil))) (d_b d_int)) a_nil)) (v_cons (v_cons v_nil))))
    (b_cons (s_dput 2 hr (d_ix (d_b (d_lst (a_cons d_str (a_cons d_str (a_cons d_str (a_cons (d_op op_mod (opf_intIf _ _) (d_b (d_callTy call_int1 cf_int bor1 (by rfl) z_int PyProof.Rows.boot_int (a_cons (d_b (d_op op_fdivW opf_fdiv (d_varb 0) (d_b d_int))) a_nil))) (d_b d_int)) (a_cons (d_var 3) a_nil))))) (v_cons (v_cons (v_cons (v_cons (v_cons v_nil))))))) (d_b (d_op op_mod (opf_intIf _ _) (d_b (d_callTy call_int1 cf_int bor1 (by rfl) z_int PyProof.Rows.boot_int (a_cons (d_varb 0) a_nil))) (d_b d_int)))) (d_b d_str))
    (b_cons (s_set 0 sc__law_box_style.nd (d_op op_fdivW opf_fdiv (d_varb 0) (d_b d_int)))
    (b_cons (s_dput 2 hr (d_ix (d_b (d_lst (a_cons d_int (a_cons d_int (a_cons (d_op op_mod (opf_intIf _ _) (d_b (d_callTy call_int1 cf_int bor1 (by rfl) z_int PyProof.Rows.boot_int (a_cons (d_b (d_op op_fdivW opf_fdiv (d_varb 0) (d_b d_int))) a_nil))) (d_b d_int)) (a_cons (d_op op_mod (opf_intIf _ _) (d_b (d_callTy call_int1 cf_int bor1 (by rfl) z_int PyProof.Rows.boot_int (a_cons (d_b (d_op op_fdivW opf_fdiv (d_varb 0) (d_b d_int))) a_nil))) (d_b d_int)) a_nil)))) (v_cons (v_cons (v_cons (v_cons v_nil)))))) (d_b (d_op op_mod (opf_intIf _ _) (d_b (d_callTy call_int1 cf_int bor1 (by rfl) z_int PyProof.Rows.boot_int (a_cons (d_varb 0) a_nil))) (d_b d_int)))) (d_b d_str))
    (b_cons (s_dput 2 hr (d_ix (d_b (d_lst (a_cons d_int (a_cons d_int (a_cons (d_op op_mod (opf_intIf _ _) (d_b (d_callTy call_int1 cf_int bor1 (by rfl) z_int PyProof.Rows.boot_int (a_cons (d_b (d_op op_fdivW opf_fdiv (d_varb 0) (d_b d_int))) a_nil))) (d_b d_int)) (a_cons (d_op op_mod (opf_intIf _ _) (d_b (d_callTy call_int1 cf_int bor1 (by rfl) z_int PyProof.Rows.boot_int (a_cons (d_b (d_op op_fdivW opf_fdiv (d_varb 0) (d_b d_int))) a_nil))) (d_b d_int)) a_nil)))) (v_cons (v_cons (v_cons (v_cons v_nil)))))) (d_b (d_op op_mod (opf_intIf _ _) (d_b (d_callTy call_int1 cf_int bor1 (by rfl) z_int PyProof.Rows.boot_int (a_cons (d_b (d_op op_fdivW opf_fdiv (d_varb 0) (d_b d_int))) a_nil))) (d_b d_int)))) (d_b d_str))
    (b_cons (s_set 0 sc__law_box_style.nd (d_fn C__law_mixed (hr.mono (by decide)) (a_cons (d_varb 0) a_nil) (am_bor am_nil)))
    (b_cons (s_dput 2 hr (d_ix (d_b (d_lst (a_cons d_int (a_cons (d_op op_mod (opf_intIf _ _) (d_b (d_callTy call_int1 cf_int bor1 (by rfl) z_int PyProof.Rows.boot_int (a_cons (d_b (d_op op_fdivW opf_fdiv (d_varb 0) (d_b d_int))) a_nil))) (d_b d_int)) (a_cons (d_op op_mod (opf_intIf _ _) (d_b (d_callTy call_int1 cf_int bor1 (by rfl) z_int PyProof.Rows.boot_int (a_cons (d_b (d_op op_fdivW opf_fdiv (d_varb 0) (d_b d_int))) a_nil))) (d_b d_int)) a_nil))) (v_cons (v_cons (v_cons v_nil))))) (d_b (d_op op_mod (opf_intIf _ _) (d_b (d_callTy call_int1 cf_int bor1 (by rfl) z_int PyProof.Rows.boot_int (a_cons (d_varb 0) a_nil))) (d_b d_int)))) (d_b d_str))
    (b_cons (s_dput 2 hr (d_ix (d_b (d_lst (a_cons d_int (a_cons (d_op op_mod (opf_intIf _ _) (d_b (d_callTy call_int1 cf_int bor1 (by rfl) z_int PyProof.Rows.boot_int (a_cons (d_b (d_op op_fdivW opf_fdiv (d_varb 0) (d_b d_int))) a_nil))) (d_b d_int)) (a_cons (d_op op_mod (opf_intIf _ _) (d_b (d_callTy call_int1 cf_int bor1 (by rfl) z_int PyProof.Rows.boot_int (a_cons (d_b (d_op op_fdivW opf_fdiv (d_varb 0) (d_b d_int))) a_nil))) (d_b d_int)) a_nil))) (v_cons (v_cons (v_cons v_nil))))) (d_b (d_op op_mod (opf_intIf _ _) (d_b (d_callTy call_int1 cf_int bor1 (by rfl) z_int PyProof.Rows.boot_int (a_cons (d_b (d_op op_fdivW opf_fdiv (d_varb 0) (d_b d_int))) a_nil))) (d_b d_int)))) (d_b d_str))
    (b_cons (s_set 0 sc__law_box_style.nd (d_op op_fdivW opf_fdiv (d_varb 0) (d_b d_int)))
    (b_cons (s_dput 2 hr (d_ix (d_b (d_lst (a_cons d_int (a_cons (d_op op_mod (opf_intIf _ _) (d_b (d_callTy call_int1 cf_int bor1 (by rfl) z_int PyProof.Rows.boot_int (a_cons (d_b (d_op op_fdivW opf_fdiv (d_varb 0) (d_b d_int))) a_nil))) (d_b d_int)) (a_cons (d_op op_mod (opf_intIf _ _) (d_b (d_callTy call_int1 cf_int bor1 (by rfl) z_int PyProof.Rows.boot_int (a_cons (d_b (d_op op_fdivW opf_fdiv (d_varb 0) (d_b d_int))) a_nil))) (d_b d_int)) a_nil))) (v_cons (v_cons (v_cons v_nil))))) (d_b (d_op op_mod (opf_intIf _ _) (d_b (d_callTy call_int1 cf_int bor1 (by rfl) z_int PyProof.Rows.boot_int (a_cons (d_varb 0) a_nil))) (d_b d_int)))) (d_b d_str))
    (b_cons (s_dput 2 hr (d_ix (d_b (d_lst (a_cons d_int (a_cons (d_op op_mod (opf_intIf _ _) (d_b (d_callTy call_int1 cf_int bor1 (by rfl) z_int PyProof.Rows.boot_int (a_cons (d_b (d_op op_fdivW opf_fdiv (d_varb 0) (d_b d_int))) a_nil))) (d_b d_int)) (a_cons (d_op op_mod (opf_intIf _ _) (d_b (d_callTy call_int1 cf_int bor1 (by rfl) z_int PyProof.Rows.boot_int (a_cons (d_b (d_op op_fdivW opf_fdiv (d_varb 0) (d_b d_int))) a_nil))) (d_b d_int)) a_nil))) (v_cons (v_cons (v_cons v_nil))))) (d_b (d_op op_mod (opf_intIf _ _) (d_b (d_callTy call_int1 cf_int bor1 (by rfl) z_int PyProof.Rows.boot_int (a_cons (d_b (d_op op_fdivW opf_fdiv (d_varb 0) (d_b d_int))) a_nil))) (d_b d_int)))) (d_b d_str))
    (b_cons (s_dput 2 hr d_int (d_b d_str))
    (b_cons (s_dput 2 hr (d_op op_mod (opf_intIf _ _) (d_b (d_callTy call_int1 cf_int bor1 (by rfl) z_int PyProof.Rows.boot_int (a_cons (d_b (d_op op_fdivW opf_fdiv (d_varb 0) (d_b d_int))) a_nil))) (d_b d_int)) (d_b d_str))
    (b_cons (s_dput 2 hr (d_op op_addAll opf_addAll (d_b d_int) (d_b (d_op op_mod (opf_intIf _ _) (d_b (d_callTy call_int1 cf_int bor1 (by rfl) z_int PyProof.Rows.boot_int (a_cons (d_b (d_op op_fdivW opf_fdiv (d_varb 0) (d_b d_int))) a_nil))) (d_b d_int)))) (d_b d_str))
    (b_one (s_retOwn 2)))))))))))))))))))))
theorem ok__law_source {f : Addr} {fd : FuncData} (F : Fun K "_law_source" "_law_source" s__law_source f fd) (C__law_mixed : Fn1 P w K mg base "_law_mixed" ["cell"] 1 .val [.bor] F__law_mixed) :
    FnOk P w K mg base CX0 2 f fd ["cell"] (spD K .val [.bor] F__law_source) :=
  fn_okB (b := B__law_source) F sc__law_source rfl rfl (am_bor am_nil) (fun cdv A outer s H E hr =>
    (b_cons (s_if (t_cmp op_ge (opf_cmpI _) (d_varb 0) (d_b (d_op op_pow (opf_intIf _ _) (d_b d_int) (d_b d_int))) (nomark _))
      (b_one (s_ret (d_op op_sub opf_sub (d_varb 0) (d_b (d_op op_pow (opf_intIf _ _) (d_b d_int) (d_b d_int))))))
      b_nil)
    (b_one (s_ret (d_fn C__law_mixed (hr.mono (by decide)) (a_cons (d_varb 0) a_nil) (am_bor am_nil))))))
theorem ok__law_cell {f : Addr} {fd : FuncData} (F : Fun K "_law_cell" "_law_cell" s__law_cell f fd) (z_len : mg "len" = none) :
    FnOk P w K mg base CX0 1 f fd ["script", "k"] (spD K .val [.scr, .val] F__law_cell) :=
  fn_okB (b := B__law_cell) F sc__law_cell rfl rfl (am_scr (am_val am_nil)) (fun cdv A outer s H E hr =>
    (b_cons (s_if (t_cmp op_lt (opf_cmpI _) (d_varb 1) (d_b (d_lenS (d_vars 0) z_len)) (nomark _))
      (b_one (s_ret (d_ixS (d_vars 0) (d_var 1))))
      b_nil)
    (b_one (s_ret d_int))))
theorem ok_frame {f : Addr} {fd : FuncData} (F : Fun K "frame" "frame" s_frame f fd) :
    FnOk P w K mg base CX0 1 f fd ["style"] (spD K .val [.bor] F_frame) :=
  fn_okB (b := B_frame) F sc_frame rfl rfl (am_bor am_nil) (fun cdv A outer s H E hr =>
    (b_one (s_ret (d_op op_addAll opf_addAll (d_b (d_dget hr (d_varb 0) (d_b d_str))) (d_b (d_dget hr (d_varb 0) (d_b d_str)))))))
theorem ok_bounded {f : Addr} {fd : FuncData} (F : Fun K "bounded" "bounded" s_bounded f fd) (C_frame : Fn1 P w K mg base "frame" ["style"] 1 .val [.bor] F_frame) (z_max : mg "max" = none) (z_min : mg "min" = none) :
    FnOk P w K mg base CX0 2 f fd ["style", "width"] (spD K .val [.bor, .bor] F_bounded) :=
  fn_okB (b := B_bounded) F sc_bounded rfl rfl (am_bor (am_bor am_nil)) (fun cdv A outer s H E hr =>
    (b_one (s_ret (d_callB (call_max3Nu rfl) cf_max3 bor3 (by rfl) z_max PyProof.Rows.boot_max (a_cons (d_b (d_callB (call_min2 rfl) cf_min2 bor2 (by rfl) z_min PyProof.Rows.boot_min (a_cons (d_varb 1) (a_cons (d_b (d_dget hr (d_varb 0) (d_b d_str))) a_nil)))) (a_cons (d_b (d_dget hr (d_varb 0) (d_b d_str))) (a_cons (d_b (d_op op_mulAll opf_mulAll (d_b d_int) (d_b (d_fn C_frame (hr.mono (by decide)) (a_cons (d_varb 0) a_nil) (am_bor am_nil))))) a_nil)))))))
theorem ok__law_is_integer {f : Addr} {fd : FuncData} (F : Fun K "_law_is_integer" "_law_is_integer" s__law_is_integer f fd) (z_bool : mg "bool" = none) (z_int : mg "int" = none) (z_isinstance : mg "isinstance" = none) :
    FnOk P w K mg base CX0 1 f fd ["value"] (spD K .val [.bor] F__law_is_integer) :=
  fn_okB (b := B__law_is_integer) F sc__law_is_integer rfl rfl (am_bor am_nil) (fun cdv A outer s H E hr =>
    (b_one (s_ret (d_and (d_isi (by rfl) z_isinstance (d_varb 0) (by rfl) z_int PyProof.Rows.boot_int okT_int (by decide +kernel)) (d_one (d_not (d_b (d_isi (by rfl) z_isinstance (d_varb 0) (by rfl) z_bool (by decide +kernel) okT_bool (by decide +kernel)))))))))
theorem ok_law {f : Addr} {fd : FuncData} (F : Fun K "law" "law" s_law f fd) (C__law_box_style : Fn1 P w K mg base "_law_box_style" ["number", "scale"] 2 .new [.bor, .val] F__law_box_style) (C__law_source : Fn1 P w K mg base "_law_source" ["cell"] 2 .val [.bor] F__law_source) (C__law_cell : Fn1 P w K mg base "_law_cell" ["script", "k"] 1 .val [.scr, .val] F__law_cell) (C_bounded : Fn1 P w K mg base "bounded" ["style", "width"] 2 .val [.bor, .bor] F_bounded) (C_frame : Fn1 P w K mg base "frame" ["style"] 1 .val [.bor] F_frame) (C__law_is_integer : Fn1 P w K mg base "_law_is_integer" ["value"] 1 .val [.bor] F__law_is_integer) (z_int : mg "int" = none) :
    FnOk P w K mg base CX0 3 f fd ["script"] (spD K .val [.scr] F_law) :=
  fn_okB (b := B_law) F sc_law rfl rfl (am_scr am_nil) (fun cdv A outer s H E hr =>
    (b_cons (s_set 1 sc_law.nd (d_fz (d_fn C__law_box_style (hr.mono (by decide)) (a_cons (d_b (d_fn C__law_source (hr.mono (by decide)) (a_cons (d_b (d_fn C__law_cell (hr.mono (by decide)) (a_cons (d_vars 0) (a_cons d_int a_nil)) (am_scr (am_val am_nil)))) a_nil) (am_bor am_nil))) (a_cons d_int a_nil)) (am_bor (am_val am_nil)))))
    (b_cons (s_set 2 sc_law.nd (d_fn C__law_source (hr.mono (by decide)) (a_cons (d_b (d_fn C__law_cell (hr.mono (by decide)) (a_cons (d_vars 0) (a_cons d_int a_nil)) (am_scr (am_val am_nil)))) a_nil) (am_bor am_nil)))
    (b_cons (s_set 3 sc_law.nd (d_fz (d_lst (a_cons (d_dget hr (d_varb 1) (d_b d_str)) (a_cons (d_dget hr (d_varb 1) (d_b d_str)) (a_cons (d_op op_addAll opf_addAll (d_b (d_op op_mulAll opf_mulAll (d_b d_int) (d_b (d_dget hr (d_varb 1) (d_b d_str))))) (d_b (d_op op_mulAll opf_mulAll (d_b d_int) (d_b (d_dget hr (d_varb 1) (d_b d_str)))))) (a_cons d_int a_nil)))) (v_cons (v_cons (v_cons (v_cons v_nil)))))))
    (b_cons (s_set 4 sc_law.nd (d_op op_sub opf_sub (d_b (d_op op_addAll opf_addAll (d_b (d_ix (d_varb 3) (d_b (d_op op_mod (opf_intIf _ _) (d_b (d_callTy call_int1 cf_int bor1 (by rfl) z_int PyProof.Rows.boot_int (a_cons (d_b (d_op op_fdivW opf_fdiv (d_varb 2) (d_b d_int))) a_nil))) (d_b d_int))))) (d_b (d_op op_mod (opf_intIf _ _) (d_b (d_callTy call_int1 cf_int bor1 (by rfl) z_int PyProof.Rows.boot_int (a_cons (d_b (d_op op_fdivW opf_fdiv (d_varb 2) (d_b d_int))) a_nil))) (d_b d_int))))) (d_b d_int)))
    (b_cons (s_if (t_cmp (op_eqD hr.units) opf_eq (d_b (d_op op_mod (opf_intIf _ _) (d_b (d_callTy call_int1 cf_int bor1 (by rfl) z_int PyProof.Rows.boot_int (a_cons (d_varb 2) a_nil))) (d_b d_int))) (d_b d_int) (nomark _))
      (b_one (s_set 4 sc_law.nd (d_op op_sub opf_sub (d_b (d_op op_mod (opf_intIf _ _) (d_b (d_callTy call_int1 cf_int bor1 (by rfl) z_int PyProof.Rows.boot_int (a_cons (d_b (d_op op_fdivW opf_fdiv (d_varb 2) (d_b d_int))) a_nil))) (d_b d_int))) (d_b d_int))))
      b_nil)
    (b_cons (s_if (t_cmp (op_eqD hr.units) opf_eq (d_b (d_op op_mod (opf_intIf _ _) (d_b (d_callTy call_int1 cf_int bor1 (by rfl) z_int PyProof.Rows.boot_int (a_cons (d_varb 2) a_nil))) (d_b d_int))) (d_b d_int) (nomark _))
      (b_one (s_set 4 sc_law.nd (d_op op_mulAll opf_mulAll (d_varb 4) (d_b (d_op op_pow (opf_intIf _ _) (d_b d_int) (d_b d_int))))))
      b_nil)
    (b_cons (s_if (t_cmp (op_eqD hr.units) opf_eq (d_b (d_op op_mod (opf_intIf _ _) (d_b (d_callTy call_int1 cf_int bor1 (by rfl) z_int PyProof.Rows.boot_int (a_cons (d_varb 2) a_nil))) (d_b d_int))) (d_b d_int) (nomark _))
      (b_one (s_set 4 sc_law.nd (d_op op_mod (opf_intIf _ _) (d_b (d_callTy call_int1 cf_int bor1 (by rfl) z_int PyProof.Rows.boot_int (a_cons (d_b (d_op op_fdivW opf_fdiv (d_varb 2) (d_b d_int))) a_nil))) (d_b (d_op op_pow (opf_intIf _ _) (d_b d_int) (d_b d_int))))))
      b_nil)
    (b_cons (s_own 5 sc_law.nd d_dnewK)
    (b_cons (s_for PassesOwn.never rfl (i_keys (d_var 1)) (g_name 6 sc_law.nd)
      (b_one (s_dput 5 hr (d_dget hr (d_varb 1) (d_varb 6)) (d_varb 6))))
    (b_cons (s_set 7 sc_law.nd (d_fn C_bounded (hr.mono (by decide)) (a_cons (d_varb 5) (a_cons (d_varb 4) a_nil)) (am_bor (am_bor am_nil))))
    (b_cons (s_set 8 sc_law.nd (d_fn C_frame (hr.mono (by decide)) (a_cons (d_varb 5) a_nil) (am_bor am_nil)))
    (b_cons (s_if (t_w (w_or (t_not (t_val (d_b (d_fn C__law_is_integer (hr.mono (by decide)) (a_cons (d_varb 7) a_nil) (am_bor am_nil))))) (w_or (t_not (t_val (d_b (d_fn C__law_is_integer (hr.mono (by decide)) (a_cons (d_varb 8) a_nil) (am_bor am_nil))))) (w_or1 (t_cmp (op_dne (units65 hr)) (opf_deq true) (d_varb 5) (d_varb 1) (nomark _))))))
      (b_one (s_ret d_bl))
      b_nil)
    (b_cons (s_if (t_w (w_or (t_cmp (op_neD hr.units) opf_ne (d_varb 8) (d_b (d_op op_addAll opf_addAll (d_b (d_dget hr (d_varb 1) (d_b d_str))) (d_b (d_dget hr (d_varb 1) (d_b d_str))))) (nomark _)) (w_or (t_cmp op_lt (opf_cmpI _) (d_varb 7) (d_b (d_dget hr (d_varb 1) (d_b d_str))) (nomark _)) (w_or1 (t_cmp op_lt (opf_cmpI _) (d_varb 7) (d_b (d_op op_mulAll opf_mulAll (d_b d_int) (d_varb 8))) (nomark _))))))
      (b_one (s_ret d_bl))
      b_nil)
    (b_cons (s_if (t_w (w_and (t_cmp op_gt (opf_cmpI _) (d_varb 7) (d_b (d_dget hr (d_varb 1) (d_b d_str))) (nomark _)) (w_and (t_cmp (op_neD hr.units) opf_ne (d_varb 7) (d_b (d_dget hr (d_varb 1) (d_b d_str))) (nomark _)) (w_and1 (t_cmp (op_neD hr.units) opf_ne (d_varb 7) (d_b (d_op op_mulAll opf_mulAll (d_b d_int) (d_varb 8))) (nomark _))))))
      (b_one (s_ret d_bl))
      b_nil)
    (b_cons (s_if (t_w (w_and (t_cmp op_gt (opf_cmpI _) (d_varb 7) (d_varb 4) (nomark _)) (w_and (t_cmp (op_neD hr.units) opf_ne (d_varb 7) (d_b (d_dget hr (d_varb 1) (d_b d_str))) (nomark _)) (w_and1 (t_cmp (op_neD hr.units) opf_ne (d_varb 7) (d_b (d_op op_mulAll opf_mulAll (d_b d_int) (d_varb 8))) (nomark _))))))
      (b_one (s_ret d_bl))
      b_nil)
    (b_cons (s_if (t_w (w_and (t_cmp op_lt (opf_cmpI _) (d_varb 7) (d_varb 4) (nomark _)) (w_and1 (t_cmp op_lt (opf_cmpI _) (d_varb 7) (d_b (d_dget hr (d_varb 1) (d_b d_str))) (nomark _)))))
      (b_one (s_ret d_bl))
      b_nil)
    (b_one (s_ret (d_and (d_cmp (op_eqD hr.units) opf_eq (d_b (d_fn C_bounded (hr.mono (by decide)) (a_cons (d_varb 5) (a_cons (d_varb 7) a_nil)) (am_bor (am_bor am_nil)))) (d_varb 7) (nomark _)) (d_one (d_cmp (op_deq (units65 hr)) (opf_deq false) (d_varb 5) (d_varb 1) (nomark _)))))))))))))))))))))))
end
/-! ### what the top has written -/
theorem all_mk {l : PySem.W.OpenLaw} {w : World} {K : PySem.W.Frag} {h : Heap} {mg : Str → Option Value} {fa : Addr} (X : K.In h) (G : h.Ns mainGlobals mg) (hfa : mg "law" = some (.ref fa))
    {f0 : Addr} {od0 an0 : Option Addr} {sl0 : Array (Option Value)} {oc0 kV0 dc0 pm0 cd0 ct0 : Value}
    {f1 : Addr} {od1 an1 : Option Addr} {sl1 : Array (Option Value)} {oc1 kV1 dc1 pm1 cd1 ct1 : Value}
    {f2 : Addr} {od2 an2 : Option Addr} {sl2 : Array (Option Value)} {oc2 kV2 dc2 pm2 cd2 ct2 : Value}
    {f3 : Addr} {od3 an3 : Option Addr} {sl3 : Array (Option Value)} {oc3 kV3 dc3 pm3 cd3 ct3 : Value}
    {f4 : Addr} {od4 an4 : Option Addr} {sl4 : Array (Option Value)} {oc4 kV4 dc4 pm4 cd4 ct4 : Value}
    {f5 : Addr} {od5 an5 : Option Addr} {sl5 : Array (Option Value)} {oc5 kV5 dc5 pm5 cd5 ct5 : Value}
    {f6 : Addr} {od6 an6 : Option Addr} {sl6 : Array (Option Value)} {oc6 kV6 dc6 pm6 cd6 ct6 : Value}
    {f7 : Addr} {od7 an7 : Option Addr} {sl7 : Array (Option Value)} {oc7 kV7 dc7 pm7 cd7 ct7 : Value}
    {f8 : Addr} {od8 an8 : Option Addr} {sl8 : Array (Option Value)} {oc8 kV8 dc8 pm8 cd8 ct8 : Value}
    (a0 : PySem.W.nsIn K mainGlobals "_law_plain_style" = some (some (.ref f0))) (l0 : K.lookup f0 = some ⟨oc0, od0, .func (PySem.W.fnOf "_law_plain_style" "_law_plain_style" (defArgs s__law_plain_style) (defBody s__law_plain_style) (defScope s__law_plain_style) .none kV0 dc0 pm0 an0 cd0 ct0), sl0⟩) (c0 : PySem.W.codeIn K cd0 "_law_plain_style" = true) (k0 : PySem.W.keepIn K (.ref f0) = true)
    (a1 : PySem.W.nsIn K mainGlobals "_law_mixed" = some (some (.ref f1))) (l1 : K.lookup f1 = some ⟨oc1, od1, .func (PySem.W.fnOf "_law_mixed" "_law_mixed" (defArgs s__law_mixed) (defBody s__law_mixed) (defScope s__law_mixed) .none kV1 dc1 pm1 an1 cd1 ct1), sl1⟩) (c1 : PySem.W.codeIn K cd1 "_law_mixed" = true) (k1 : PySem.W.keepIn K (.ref f1) = true)
    (a2 : PySem.W.nsIn K mainGlobals "_law_box_style" = some (some (.ref f2))) (l2 : K.lookup f2 = some ⟨oc2, od2, .func (PySem.W.fnOf "_law_box_style" "_law_box_style" (defArgs s__law_box_style) (defBody s__law_box_style) (defScope s__law_box_style) .none kV2 dc2 pm2 an2 cd2 ct2), sl2⟩) (c2 : PySem.W.codeIn K cd2 "_law_box_style" = true) (k2 : PySem.W.keepIn K (.ref f2) = true)
    (a3 : PySem.W.nsIn K mainGlobals "_law_source" = some (some (.ref f3))) (l3 : K.lookup f3 = some ⟨oc3, od3, .func (PySem.W.fnOf "_law_source" "_law_source" (defArgs s__law_source) (defBody s__law_source) (defScope s__law_source) .none kV3 dc3 pm3 an3 cd3 ct3), sl3⟩) (c3 : PySem.W.codeIn K cd3 "_law_source" = true) (k3 : PySem.W.keepIn K (.ref f3) = true)
    (a4 : PySem.W.nsIn K mainGlobals "_law_cell" = some (some (.ref f4))) (l4 : K.lookup f4 = some ⟨oc4, od4, .func (PySem.W.fnOf "_law_cell" "_law_cell" (defArgs s__law_cell) (defBody s__law_cell) (defScope s__law_cell) .none kV4 dc4 pm4 an4 cd4 ct4), sl4⟩) (c4 : PySem.W.codeIn K cd4 "_law_cell" = true) (k4 : PySem.W.keepIn K (.ref f4) = true)
    (a5 : PySem.W.nsIn K mainGlobals "frame" = some (some (.ref f5))) (l5 : K.lookup f5 = some ⟨oc5, od5, .func (PySem.W.fnOf "frame" "frame" (defArgs s_frame) (defBody s_frame) (defScope s_frame) .none kV5 dc5 pm5 an5 cd5 ct5), sl5⟩) (c5 : PySem.W.codeIn K cd5 "frame" = true) (k5 : PySem.W.keepIn K (.ref f5) = true)
    (a6 : PySem.W.nsIn K mainGlobals "bounded" = some (some (.ref f6))) (l6 : K.lookup f6 = some ⟨oc6, od6, .func (PySem.W.fnOf "bounded" "bounded" (defArgs s_bounded) (defBody s_bounded) (defScope s_bounded) .none kV6 dc6 pm6 an6 cd6 ct6), sl6⟩) (c6 : PySem.W.codeIn K cd6 "bounded" = true) (k6 : PySem.W.keepIn K (.ref f6) = true)
    (a7 : PySem.W.nsIn K mainGlobals "_law_is_integer" = some (some (.ref f7))) (l7 : K.lookup f7 = some ⟨oc7, od7, .func (PySem.W.fnOf "_law_is_integer" "_law_is_integer" (defArgs s__law_is_integer) (defBody s__law_is_integer) (defScope s__law_is_integer) .none kV7 dc7 pm7 an7 cd7 ct7), sl7⟩) (c7 : PySem.W.codeIn K cd7 "_law_is_integer" = true) (k7 : PySem.W.keepIn K (.ref f7) = true)
    (a8 : PySem.W.nsIn K mainGlobals "law" = some (some (.ref f8))) (l8 : K.lookup f8 = some ⟨oc8, od8, .func (PySem.W.fnOf "law" "law" (defArgs s_law) (defBody s_law) (defScope s_law) .none kV8 dc8 pm8 an8 cd8 ct8), sl8⟩) (c8 : PySem.W.codeIn K cd8 "law" = true) (k8 : PySem.W.keepIn K (.ref f8) = true)
    (z_int : PySem.W.nsIn K mainGlobals "int" = some none)
    (z_len : PySem.W.nsIn K mainGlobals "len" = some none)
    (z_max : PySem.W.nsIn K mainGlobals "max" = some none)
    (z_min : PySem.W.nsIn K mainGlobals "min" = some none)
    (z_bool : PySem.W.nsIn K mainGlobals "bool" = some none)
    (z_isinstance : PySem.W.nsIn K mainGlobals "isinstance" = some none) :
    ∃ fd : FuncData, (∀ (s : Shared) (v : Value), BindsTo s fd ⟨[v], []⟩ [("script", v)]) ∧ ∀ base : Heap, K.In base → base.Ns mainGlobals mg → FnOk l.prog w K mg base CX0 3 fa fd ["script"] (spD K .val [.scr] F_law) := by
  have e := hfa.symm.trans (PySem.W.mg_of X G a8)
  cases e
  have F0 := fun_mk (st := s__law_plain_style) l0 c0 k0
  have F1 := fun_mk (st := s__law_mixed) l1 c1 k1
  have F2 := fun_mk (st := s__law_box_style) l2 c2 k2
  have F3 := fun_mk (st := s__law_source) l3 c3 k3
  have F4 := fun_mk (st := s__law_cell) l4 c4 k4
  have F5 := fun_mk (st := s_frame) l5 c5 k5
  have F6 := fun_mk (st := s_bounded) l6 c6 k6
  have F7 := fun_mk (st := s__law_is_integer) l7 c7 k7
  have F8 := fun_mk (st := s_law) l8 c8 k8
  refine ⟨PySem.W.fnOf "law" "law" (defArgs s_law) (defBody s_law) (defScope s_law) .none kV8 dc8 pm8 an8 cd8 ct8, fun s v => .of_eq rfl, fun base _ _ => ?_⟩
  have C__law_plain_style : Fn1 l.prog w K mg base "_law_plain_style" ["scale"] 1 .new [.val] F__law_plain_style := ⟨_, _, ok__law_plain_style F0, PySem.W.mg_of X G a0, k0, F0.binds (ps := ["scale"]) fun _ _ _ _ _ _ us hl => match us, hl with | [_], _ => rfl⟩
  have C__law_mixed : Fn1 l.prog w K mg base "_law_mixed" ["cell"] 1 .val [.bor] F__law_mixed := ⟨_, _, ok__law_mixed F1 (PySem.W.mg_none_of X G z_int), PySem.W.mg_of X G a1, k1, F1.binds (ps := ["cell"]) fun _ _ _ _ _ _ us hl => match us, hl with | [_], _ => rfl⟩
  have C__law_box_style : Fn1 l.prog w K mg base "_law_box_style" ["number", "scale"] 2 .new [.bor, .val] F__law_box_style := ⟨_, _, ok__law_box_style F2 C__law_plain_style C__law_mixed (PySem.W.mg_none_of X G z_int), PySem.W.mg_of X G a2, k2, F2.binds (ps := ["number", "scale"]) fun _ _ _ _ _ _ us hl => match us, hl with | [_, _], _ => rfl⟩
  have C__law_source : Fn1 l.prog w K mg base "_law_source" ["cell"] 2 .val [.bor] F__law_source := ⟨_, _, ok__law_source F3 C__law_mixed, PySem.W.mg_of X G a3, k3, F3.binds (ps := ["cell"]) fun _ _ _ _ _ _ us hl => match us, hl with | [_], _ => rfl⟩
  have C__law_cell : Fn1 l.prog w K mg base "_law_cell" ["script", "k"] 1 .val [.scr, .val] F__law_cell := ⟨_, _, ok__law_cell F4 (PySem.W.mg_none_of X G z_len), PySem.W.mg_of X G a4, k4, F4.binds (ps := ["script", "k"]) fun _ _ _ _ _ _ us hl => match us, hl with | [_, _], _ => rfl⟩
  have C_frame : Fn1 l.prog w K mg base "frame" ["style"] 1 .val [.bor] F_frame := ⟨_, _, ok_frame F5, PySem.W.mg_of X G a5, k5, F5.binds (ps := ["style"]) fun _ _ _ _ _ _ us hl => match us, hl with | [_], _ => rfl⟩
  have C_bounded : Fn1 l.prog w K mg base "bounded" ["style", "width"] 2 .val [.bor, .bor] F_bounded := ⟨_, _, ok_bounded F6 C_frame (PySem.W.mg_none_of X G z_max) (PySem.W.mg_none_of X G z_min), PySem.W.mg_of X G a6, k6, F6.binds (ps := ["style", "width"]) fun _ _ _ _ _ _ us hl => match us, hl with | [_, _], _ => rfl⟩
  have C__law_is_integer : Fn1 l.prog w K mg base "_law_is_integer" ["value"] 1 .val [.bor] F__law_is_integer := ⟨_, _, ok__law_is_integer F7 (PySem.W.mg_none_of X G z_bool) (PySem.W.mg_none_of X G z_int) (PySem.W.mg_none_of X G z_isinstance), PySem.W.mg_of X G a7, k7, F7.binds (ps := ["value"]) fun _ _ _ _ _ _ us hl => match us, hl with | [_], _ => rfl⟩
  exact ok_law F8 C__law_box_style C__law_source C__law_cell C_bounded C_frame C__law_is_integer (PySem.W.mg_none_of X G z_int)
end Lw

namespace Lw
open PySem L2 DV
def onceV (c : Int) : Int := (c * 48271 + 12345) % 2147483647
def twiceV (c : Int) : Int := (onceV c * onceV c + 7 * onceV c + 3) % 2305843009213693951
def mixV (c : Int) : Int := (twiceV c * 16807 + 11) % 2305843009213693951
theorem onceV_b (c : Int) : 0 ≤ onceV c ∧ onceV c < 2147483647 := ⟨Int.emod_nonneg _ (by decide), Int.emod_lt_of_pos _ (by decide)⟩
theorem twiceV_b (c : Int) : 0 ≤ twiceV c ∧ twiceV c < 2305843009213693951 := ⟨Int.emod_nonneg _ (by decide), Int.emod_lt_of_pos _ (by decide)⟩
theorem mixV_b (c : Int) : 0 ≤ mixV c ∧ mixV c < 2305843009213693951 := ⟨Int.emod_nonneg _ (by decide), Int.emod_lt_of_pos _ (by decide)⟩
theorem mixed_eq (c : Int) : F__law_mixed [.int c] = some (.int (mixV c)) := by
  have h1 := onceV_b c
  have h2 := twiceV_b c
  refine box_rt rfl ?_
  unfold B__law_mixed
  rw [seq_nx (ρ' := [.bor (.int c), .val (.int (onceV c)), .un]) (by simp (disch := omega) [oMul_r]; rfl)]
  rw [seq_nx (ρ' := [.bor (.int c), .val (.int (onceV c)), .val (.int (twiceV c))]) (by simp (disch := omega) [oMul_r]; rfl)]
  simp (disch := omega) [oMul_r]; rfl
def srcV (c : Int) : Int := if 1000000000000000000 ≤ c then c - 1000000000000000000 else mixV c
theorem srcV_b (c : Int) : 0 ≤ srcV c := by
  unfold srcV
  have := mixV_b c
  split <;> omega
theorem source_eq (c : Int) : F__law_source [.int c] = some (.int (srcV c)) := by
  refine box_rt rfl ?_
  unfold srcV
  by_cases h : 1000000000000000000 ≤ c
  · simp (disch := omega) [B__law_source, h]
  · simp (disch := omega) [B__law_source, h, mixed_eq]
def cellV (ns : List Int) (k : Nat) : Int := ns.getD k 0
theorem cell_eq (ns : List Int) (k : Nat) : F__law_cell [.list (ns.map .int), .int (k : Nat)] = some (.int (cellV ns k)) := by
  refine box_rt rfl ?_
  unfold cellV
  by_cases h : k < ns.length
  · simp (disch := omega) [B__law_cell, h, atI_pos]
  · simp (disch := omega) [B__law_cell, h]
theorem eLc_eq {fi : SI} {vs : List Nat} {ρ : Rho} {g : SG} {t : SB} {e : SE} {ds ys : List PyData} (h1 : fi ρ = some ds) (h2 : lcGo g t e (wipeR ρ vs) ds = some ys) (h3 : ys.length ≤ 4096) : eLc fi g t e vs ρ = some (.list ys) := by
  rw [eLc_r, h1]
  show (lcGo g t e (wipeR ρ vs) ds).bind _ = _
  rw [h2]
  exact if_pos (by rw [sizeLine_eq]; omega)
theorem sSet_eq {ρ : Rho} {e : SE} {d : PyData} {k : Nat} (h : e ρ = some d) (hk : k < ρ.length) : sSet k e ρ = some (.nx (ρ.set k (.val d))) := by
  rw [sSet_r, h]; exact if_pos hk
theorem sOwn_eq {ρ : Rho} {e : SE} {d : PyData} {k : Nat} (h : e ρ = some d) (hk : k < ρ.length) : sOwn k e ρ = some (.nx (ρ.set k (.own d))) := by
  rw [sOwn_r, h]; exact if_pos hk
theorem eCall1_eq {F : List PyData → Option PyData} {ρ : Rho} {e : SE} {d r : PyData} (h : e ρ = some d) (hF : F [d] = some r) : eCall F (aCons e aNil) ρ = some r := by
  rw [eCall_r, aCons_r, h]; exact hF
theorem sFor_eq {fi : SI} {g : SG} {b : SS} {ρ : Rho} {ds : List PyData} (h : fi ρ = some ds) : sFor fi g b ρ = forGo g b ds ρ := by
  rw [sFor_r, h]; rfl
theorem sArgs_eq {F : List PyData → Option (List PyData)} {r : SA} {ρ : Rho} {ds ds' : List PyData} (h1 : r ρ = some ds) (h2 : F ds = some ds') : sArgs F r ρ = some ds' := by
  rw [sArgs_r, h1]; exact h2
theorem rng1_n (n : Nat) (h : n ≤ 4096) : rng1 [.int (n : Nat)] = some (rangeD 0 n) := by
  rw [rng1_r (by omega) (by omega), Int.toNat_natCast]
theorem rangeD_cons (a n : Nat) : rangeD (a : Nat) (n + 1) = .int (a : Nat) :: rangeD ((a + 1 : Nat) : Int) n := by
  rw [rangeD_map, rangeD_map, List.range_succ_eq_map, List.map_cons, List.map_cons, List.map_map, List.map_map, List.map_map]
  have e : ∀ i : Nat, ((a : Int) + ((i + 1 : Nat) : Int)) = ((a + 1 : Nat) : Int) + (i : Int) := fun i => by omega
  have e0 : (a : Int) + ((0 : Nat) : Int) = (a : Int) := by omega
  refine congr (congrArg _ ?_) (List.map_congr_left fun i _ => ?_)
  · show PyData.int ((a : Int) + ((0 : Nat) : Int)) = _
    rw [e0]
  · show PyData.int ((a : Int) + ((i + 1 : Nat) : Int)) = PyData.int (((a + 1 : Nat) : Int) + (i : Int))
    rw [e]
theorem rangeD_down (L n : Nat) (h : n + 1 ≤ L) : rangeD ((L - (n + 1) : Nat) : Int) (n + 1) = .int ((L - (n + 1) : Nat) : Int) :: rangeD ((L - n : Nat) : Int) n := by
  rw [rangeD_cons, show L - (n + 1) + 1 = L - n by omega]
theorem is_integer_i (i : Int) : F__law_is_integer [.int i] = some (.bool true) := by
  refine box_rt rfl ?_
  simp [B__law_is_integer]
/-! ### dicts with texts as keys -/
def encP (p : Str × PyData) : PyData × PyData := (.str p.1, p.2)
def encS (m : List (Str × PyData)) : PyData := .dict (m.map encP)
def lk (m : List (Str × PyData)) (k : Str) : Option PyData := match m with
  | [] => none
  | p :: r => if p.1 = k then some p.2 else lk r k
def VOk (d : PyData) : Prop := clean 9 d = true
structure Sty (n : Nat) (g : Str → Option PyData) (m : List (Str × PyData)) : Prop where
  len : m.length ≤ n
  nd : (m.map (·.1)).Nodup
  ok : ∀ p ∈ m, VOk p.2
  lk : ∀ k, lk m k = g k
def upG (g : Str → Option PyData) (k : Str) (v : PyData) : Str → Option PyData := fun x => if x = k then some v else g x
theorem valD_S : ∀ (m : List (Str × PyData)) (k : Str), valD unK (m.map encP) (.inr k) = lk m k
  | [], k => rfl
  | p :: m, k => by
    rw [List.map_cons, valD, lk]
    have : unK (encP p).1 = some (.inr p.1) := rfl
    rw [this]
    by_cases c : p.1 = k
    · rw [if_pos (by rw [c]), if_pos c]; rfl
    · rw [if_neg (fun z => c (Sum.inr.inj (Option.some.inj z))), if_neg c, valD_S m k]
theorem hasD_S : ∀ (m : List (Str × PyData)) (k : Str), hasD unK (m.map encP) (.inr k) = decide (k ∈ m.map (·.1))
  | [], k => by simp [hasD]
  | p :: m, k => by
    rw [List.map_cons, hasD]
    have : unK (encP p).1 = some (.inr p.1) := rfl
    rw [this]
    by_cases c : p.1 = k
    · rw [if_pos (by rw [c])]; simp [c]
    · rw [if_neg (fun z => c (Sum.inr.inj (Option.some.inj z))), hasD_S m k]
      have : ¬ k = p.1 := fun z => c z.symm
      simp [this]
def repS : List (Str × PyData) → Str → PyData → List (Str × PyData)
  | [], _, _ => []
  | p :: r, k, v => (if p.1 = k then (p.1, v) else p) :: repS r k v
theorem repD_S : ∀ (m : List (Str × PyData)) (k : Str) (v : PyData), repD unK (m.map encP) (.inr k) v = (repS m k v).map encP
  | [], k, v => rfl
  | p :: m, k, v => by
    rw [List.map_cons, repD, repS, List.map_cons, repD_S m k v]
    have : unK (encP p).1 = some (.inr p.1) := rfl
    rw [this]
    by_cases c : p.1 = k
    · rw [if_pos (by rw [c]), if_pos c]; rfl
    · rw [if_neg (fun z => c (Sum.inr.inj (Option.some.inj z))), if_neg c]
theorem repS_k : ∀ (m : List (Str × PyData)) (k : Str) (v : PyData), (repS m k v).map (·.1) = m.map (·.1)
  | [], k, v => rfl
  | p :: m, k, v => by
    rw [repS, List.map_cons, List.map_cons, repS_k m k v]
    congr 1
    split <;> rfl
theorem lk_rep : ∀ (m : List (Str × PyData)) (k : Str) (v : PyData), k ∈ m.map (·.1) → ∀ x, lk (repS m k v) x = if x = k then some v else lk m x
  | p :: m, k, v, h, x => by
    rw [repS, lk, lk]
    by_cases c : p.1 = k
    · rw [if_pos c]
      by_cases d : x = k
      · rw [if_pos (by rw [c, d]), if_pos d]
      · have e : ¬ p.1 = x := fun z => d (by rw [← z, c])
        rw [if_neg e, if_neg d, if_neg e]
        by_cases hm : k ∈ m.map (·.1)
        · rw [lk_rep m k v hm x, if_neg d]
        · have : ∀ (l : List (Str × PyData)), k ∉ l.map (·.1) → repS l k v = l := by
            intro l
            induction l with
            | nil => intro _; rfl
            | cons q l ih =>
              intro hq
              rw [List.map_cons] at hq
              have h1 : ¬ q.1 = k := fun z => hq (by rw [z]; exact List.mem_cons_self)
              rw [repS, if_neg h1, ih fun z => hq (List.mem_cons_of_mem _ z)]
          rw [this m hm]
    · rw [if_neg c]
      have hm : k ∈ m.map (·.1) := by
        rw [List.map_cons] at h
        rcases List.mem_cons.mp h with h | h
        · exact absurd h.symm c
        · exact h
      have ih := lk_rep m k v hm x
      by_cases e : p.1 = x
      · have d : ¬ x = k := fun z => c (by rw [e, z])
        rw [if_pos e, if_neg d, if_pos e]
      · rw [if_neg e, ih, if_neg e]
theorem lk_app : ∀ (m : List (Str × PyData)) (k : Str) (v : PyData), k ∉ m.map (·.1) → ∀ x, lk (m ++ [(k, v)]) x = if x = k then some v else lk m x
  | [], k, v, _, x => by
    rw [List.nil_append, lk, lk]
    by_cases d : x = k
    · rw [if_pos d, if_pos d.symm]
    · rw [if_neg d, if_neg fun z => d z.symm]; rfl
  | p :: m, k, v, h, x => by
    rw [List.map_cons] at h
    rw [List.cons_append, lk, lk, lk_app m k v (fun z => h (List.mem_cons_of_mem _ z)) x]
    by_cases e : p.1 = x
    · have d : ¬ x = k := fun z => h (by rw [← z, ← e]; exact List.mem_cons_self)
      rw [if_pos e, if_neg d, if_pos e]
    · rw [if_neg e, if_neg e]
def putS (m : List (Str × PyData)) (k : Str) (v : PyData) : List (Str × PyData) := if k ∈ m.map (·.1) then repS m k v else m ++ [(k, v)]
theorem putD_S (m : List (Str × PyData)) (k : Str) (v : PyData) : putD unK (m.map encP) (.str k) (.inr k) v = (putS m k v).map encP := by
  unfold putD putS
  rw [hasD_S]
  by_cases c : k ∈ m.map (·.1)
  · rw [if_pos (by rw [decide_eq_true c]), if_pos c, repD_S]
  · rw [if_neg (by rw [decide_eq_false c]; exact Bool.false_ne_true), if_neg c, List.map_append]; rfl
theorem Sty.put {n : Nat} {g : Str → Option PyData} {m : List (Str × PyData)} (s : Sty n g m) {k : Str} {v : PyData} (hv : VOk v) : Sty (n + 1) (upG g k v) (putS m k v) := by
  unfold putS
  by_cases c : k ∈ m.map (·.1)
  · rw [if_pos c]
    refine ⟨?_, by rw [repS_k]; exact s.nd, fun p hp => ?_, fun x => ?_⟩
    · have := congrArg List.length (repS_k m k v)
      rw [List.length_map, List.length_map] at this
      have := s.len
      omega
    · have : ∀ l : List (Str × PyData), (∀ p ∈ l, VOk p.2) → ∀ p ∈ repS l k v, VOk p.2 := by
        intro l
        induction l with
        | nil => intro _ p hp; cases hp
        | cons q l ih =>
          intro h p hp
          rw [repS] at hp
          rcases List.mem_cons.mp hp with rfl | hp
          · split
            · exact hv
            · exact h q List.mem_cons_self
          · exact ih (fun p hp => h p (List.mem_cons_of_mem _ hp)) p hp
      exact this m s.ok p hp
    · rw [lk_rep m k v c x, s.lk]; rfl
  · rw [if_neg c]
    refine ⟨by rw [List.length_append]; have := s.len; simp; omega, ?_, fun p hp => ?_, fun x => ?_⟩
    · rw [List.map_append, List.nodup_append]
      refine ⟨s.nd, by simp, fun a ha b hb => ?_⟩
      simp at hb
      subst hb
      rintro rfl
      exact c ha
    · rcases List.mem_append.mp hp with hp | hp
      · exact s.ok p hp
      · rw [List.mem_singleton.mp hp]; exact hv
    · rw [lk_app m k v c x, s.lk]; rfl
theorem enc_not (m : List (Str × PyData)) : ∀ es, encS m ≠ .dict ((.none, .none) :: es) := fun es h => by
  cases m with
  | nil => unfold encS at h; cases h
  | cons p m =>
    unfold encS at h
    rw [List.map_cons] at h
    injection h with h
    injection h with h1 h2
    injection h1 with h3 h4
    cases h3
theorem dGet_S (m : List (Str × PyData)) (k : Str) : dGet (encS m) (.str k) = some (lk m k) := by
  cases m with
  | nil => rfl
  | cons p m =>
    have := valD_S (p :: m) k
    show (unK (.str k)).map (valD unK ((p :: m).map encP)) = _
    rw [← this]; rfl
theorem get_S {n : Nat} {g : Str → Option PyData} {m : List (Str × PyData)} (s : Sty n g m) (k : Str) : oDGet (encS m) (.str k) = g k := by
  unfold oDGet
  rw [dGet_S, s.lk]; rfl
theorem dPut_S (m : List (Str × PyData)) (k : Str) (v : PyData) (hl : m.length < sizeLine) : dPut (encS m) (.str k) v = some (encS (putS m k v)) := by
  have key : ((unK (.str k)).bind fun kk => if (m.map encP).length < sizeLine then some (PyData.dict (putD unK (m.map encP) (.str k) kk v)) else none) = some (encS (putS m k v)) := by
    show (if (m.map encP).length < sizeLine then some (PyData.dict (putD unK (m.map encP) (.str k) (.inr k) v)) else none) = _
    rw [if_pos (by rw [List.length_map]; exact hl), putD_S]; rfl
  rw [← key]
  cases m with
  | nil => rfl
  | cons p m => rfl
theorem keys_S (m : List (Str × PyData)) : keysOf (encS m) = some (m.map fun p => .str p.1) := by
  cases m with
  | nil => rfl
  | cons p m =>
    show some (((p :: m).map encP).map (·.1)) = _
    rw [List.map_map]; rfl
theorem lk_mem : ∀ {m : List (Str × PyData)}, (m.map (·.1)).Nodup → ∀ p ∈ m, lk m p.1 = some p.2
  | q :: m, h, p, hp => by
    rw [List.map_cons, List.nodup_cons] at h
    rw [lk]
    rcases List.mem_cons.mp hp with rfl | hp
    · rw [if_pos rfl]
    · rw [if_neg (fun z => h.1 (by rw [z]; exact List.mem_map.mpr ⟨p, hp, rfl⟩)), lk_mem h.2 p hp]
theorem unKs_S (m : List (Str × PyData)) : (unKs ((m.map encP).map (·.1))).isSome = true := by
  have : (m.map encP).map (·.1) = (m.map fun p => (Sum.inr p.1 : Key)).map keyD := by rw [List.map_map, List.map_map]; rfl
  rw [this, unKs_keys]; rfl
theorem shaped_S {m : List (Str × PyData)} (h : ∀ p ∈ m, VOk p.2) : shapedAll ((m.map encP).map (·.2)) = true := by
  induction m with
  | nil => rfl
  | cons p m ih =>
    rw [List.map_cons, List.map_cons, shapedAll, ih fun q hq => h q (List.mem_cons_of_mem _ hq)]
    have : SeqAt.shaped (encP p).2 = true := clean_shaped (by decide) (h p List.mem_cons_self)
    rw [this]; rfl
theorem eqvD_self {m : List (Str × PyData)} (hn : (m.map (·.1)).Nodup) (h : ∀ p ∈ m, VOk p.2) : ∀ l : List (Str × PyData), (∀ p ∈ l, p ∈ m) → eqvD (l.map encP) (m.map encP) = true
  | [], _ => rfl
  | p :: l, hl => by
    have hp := hl p List.mem_cons_self
    rw [List.map_cons, eqvD, eqvD_self hn h l fun q hq => hl q (List.mem_cons_of_mem _ hq)]
    have h1 : (unK (encP p).1).bind (valD unK (m.map encP)) = some p.2 := by
      show valD unK (m.map encP) (.inr p.1) = _
      rw [valD_S, lk_mem hn p hp]
    rw [h1]
    have h2 : PyData.eqv (encP p).2 p.2 = true := (eqv_iff 9 _ _ (h p hp) (h p hp)).mpr rfl
    rw [Bool.and_true]
    exact h2
theorem eq_S {m : List (Str × PyData)} (hn : (m.map (·.1)).Nodup) (h : ∀ p ∈ m, VOk p.2) (ne : Bool) : oDEq ne (encS m) (encS m) = some (.bool (!ne)) := by
  show (if _ then _ else _) = _
  rw [if_pos ⟨unKs_S m, unKs_S m, shaped_S h, shaped_S h⟩, eqvD_self hn h m fun p hp => hp]
  simp
/-- a loop that copies -/
theorem copyGo {g : SG} {b : SS} {m : List (Str × PyData)} (hn : (m.map (·.1)).Nodup) (hl : m.length ≤ 1000) (ρ : PyData → Slot → Rho) (hg : ∀ d s k, g (.str k) (ρ d s) = some (ρ d (.val (.str k)))) (hb : ∀ d k v d', lk m k = some v → dPut d (.str k) v = some d' → b (ρ d (.val (.str k))) = some (.nx (ρ d' (.val (.str k))))) :
    ∀ (l a : List (Str × PyData)) (s : Slot), a ++ l = m → ∃ s', forGo g b (l.map fun p => .str p.1) (ρ (encS a) s) = some (.nx (ρ (encS m) s'))
  | [], a, s, h => ⟨s, by rw [List.append_nil] at h; rw [h]; rfl⟩
  | p :: l, a, s, h => by
    have hm : p ∈ m := by rw [← h]; exact List.mem_append_right _ List.mem_cons_self
    have hla : a.length < sizeLine := by
      have := congrArg List.length h
      rw [List.length_append] at this
      rw [sizeLine_eq]; omega
    have hna : p.1 ∉ a.map (·.1) := by
      rw [← h, List.map_append, List.nodup_append, List.map_cons] at hn
      intro hc
      exact hn.2.2 _ hc _ List.mem_cons_self rfl
    obtain ⟨s', e⟩ := copyGo hn hl ρ hg hb l (a ++ [p]) (.val (.str p.1)) (by rw [List.append_assoc]; exact h)
    refine ⟨s', ?_⟩
    have st := hb (encS a) p.1 p.2 (encS (a ++ [p])) (lk_mem hn p hm) (by
      rw [dPut_S _ _ _ hla]
      unfold putS
      rw [if_neg hna])
    rw [List.map_cons, forGo, hg, Option.bind_some, st]
    exact e
/-- a loop that writes one value at names -/
theorem putsGo {b : SS} {v : PyData} (hv : VOk v) (i j : Nat) (ρ : PyData → Slot → Rho) (hg : ∀ d s k, gV j (.str k) (ρ d s) = some (ρ d (.val (.str k)))) (hb : ∀ d k d', dPut d (.str k) v = some d' → b (ρ d (.val (.str k))) = some (.nx (ρ d' (.val (.str k))))) :
    ∀ (ks : List Str) (n : Nat) (g : Str → Option PyData) (m : List (Str × PyData)) (s : Slot), Sty n g m → n + ks.length ≤ 1000 → ∃ m' s', forGo (gV j) b (ks.map .str) (ρ (encS m) s) = some (.nx (ρ (encS m') s')) ∧ Sty (n + ks.length) (ks.foldl (fun g k => upG g k v) g) m'
  | [], n, g, m, s, h, _ => ⟨m, s, rfl, h⟩
  | k :: ks, n, g, m, s, h, hn => by
    have hl : m.length < sizeLine := by
      have := h.len
      simp at hn
      rw [sizeLine_eq]; omega
    obtain ⟨m', s', e1, e2⟩ := putsGo hv i j ρ hg hb ks (n + 1) (upG g k v) (putS m k v) (.val (.str k)) (h.put hv) (by simp at hn ⊢; omega)
    refine ⟨m', s', ?_, by rw [List.foldl_cons, List.length_cons, show n + (ks.length + 1) = n + 1 + ks.length by omega]; exact e2⟩
    rw [List.map_cons, forGo, hg, Option.bind_some, hb _ _ _ (dPut_S m k v hl)]
    exact e1
def dspS (acc : List (Str × PyData)) (l : List (Str × PyData)) : List (Str × PyData) := l.foldl (fun a p => putS a p.1 p.2) acc
theorem mergeD_S : ∀ (l acc : List (Str × PyData)), mergeD (acc.map encP) (l.map encP) = some ((dspS acc l).map encP)
  | [], acc => rfl
  | p :: l, acc => by
    rw [List.map_cons, mergeD]
    show mergeD (putD unK (acc.map encP) (.str p.1) (.inr p.1) p.2) (l.map encP) = _
    rw [putD_S, mergeD_S l]; rfl
theorem dsp_S {ps : List (SE × SE)} {ρ : Rho} {l : List (Str × PyData)} (h : eDsp.pairsD ps ρ = some (l.map encP)) (hl : l.length ≤ 15) : eDsp ps ρ = some (encS (dspS [] l)) := by
  unfold eDsp
  rw [h, Option.bind_some, if_pos (by rw [List.length_map]; exact hl)]
  have := mergeD_S l []
  rw [List.map_nil] at this
  rw [this]; rfl
theorem Sty.dsp : ∀ (l : List (Str × PyData)) {n : Nat} {g : Str → Option PyData} {acc : List (Str × PyData)}, Sty n g acc → (∀ p ∈ l, VOk p.2) → Sty (n + l.length) (l.foldl (fun g p => upG g p.1 p.2) g) (dspS acc l)
  | [], n, g, acc, s, _ => s
  | p :: l, n, g, acc, s, h => by
    have := Sty.dsp l (s.put (k := p.1) (h p List.mem_cons_self)) fun q hq => h q (List.mem_cons_of_mem _ hq)
    rw [List.length_cons, show n + (l.length + 1) = n + 1 + l.length by omega]
    exact this
theorem Sty.nil : Sty 0 (fun _ => none) [] := ⟨Nat.le_refl _, List.nodup_nil, fun p hp => by (cases hp), fun k => rfl⟩
theorem dputS {i : Nat} {ρ : Rho} {fv fk : SE} {m : List (Str × PyData)} {k : Str} {v : PyData} (h : getS ρ i = some (.own (encS m))) (hv : fv ρ = some v) (hk : fk ρ = some (.str k)) (hl : m.length < sizeLine) : sDPut i fv fk ρ = some (.nx (ρ.set i (.own (encS (putS m k v))))) := by
  rw [sDPut_r, h]
  simp only []
  rw [hv, Option.bind_some, hk, Option.bind_some, dPut_S _ _ _ hl, Option.bind_some]
theorem Sty.lt {n : Nat} {g : Str → Option PyData} {m : List (Str × PyData)} (s : Sty n g m) (h : n ≤ 1000) : m.length < sizeLine := by
  have := s.len
  rw [sizeLine_eq]; omega
theorem pickD (l : List PyData) {i : Int} (h0 : 0 ≤ i) (h1 : i < l.length) : ∃ v, v ∈ l ∧ oIx (.list l) (.int i) = some v := by
  refine ⟨l[i.toNat]'(by omega), List.getElem_mem _, ?_⟩
  rw [oIx_l, atI_pos h0, List.getElem?_eq_getElem (by omega)]
theorem upG_same {g : Str → Option PyData} {k : Str} {v : PyData} : upG g k v k = some v := if_pos rfl
theorem upG_ne {g : Str → Option PyData} {k x : Str} {v : PyData} (h : x ≠ k) : upG g k v x = g x := if_neg h
/-! ### the style of the law -/
theorem VOk.int (i : Int) : VOk (.int i) := rfl
theorem VOk.str {x : Str} (h : PyData.strOk x = true) : VOk (.str x) := h
def disp6 : List (Str × PyData) := [("display", .str "block"), ("place", .str "flow"), ("left", .int 0), ("top", .int 0), ("width", .str "auto"), ("height", .str "auto")]
theorem disp6_ok : ∀ p ∈ disp6, VOk p.2 := fun p hp => by
  unfold disp6 at hp
  simp only [List.mem_cons, List.not_mem_nil, or_false] at hp
  rcases hp with rfl | rfl | rfl | rfl | rfl | rfl
  · exact VOk.str (by decide +kernel)
  · exact VOk.str (by decide +kernel)
  · exact VOk.int _
  · exact VOk.int _
  · exact VOk.str (by decide +kernel)
  · exact VOk.str (by decide +kernel)
theorem plain_ex (s : Int) : ∃ g m, F__law_plain_style [.int s] = some (encS m) ∧ Sty 40 g m := by
  have h0 : eDsp [((eK (.str "display")), (eK (.str "block"))), ((eK (.str "place")), (eK (.str "flow"))), ((eK (.str "left")), (eK (.int 0))), ((eK (.str "top")), (eK (.int 0))), ((eK (.str "width")), (eK (.str "auto"))), ((eK (.str "height")), (eK (.str "auto")))] [.val (.int s), .un, .un] = some (encS (dspS [] disp6)) := dsp_S rfl (by decide)
  have s0 := Sty.dsp disp6 Sty.nil disp6_ok
  have s0 : Sty 6 _ (dspS [] disp6) := s0
  generalize dspS [] disp6 = m0 at *
  have s1 := s0.put (k := "least_width") (VOk.int 0)
  have s2 := s1.put (k := "most_width") (VOk.int 1000)
  obtain ⟨m3, t3, e3, s3⟩ := putsGo (b := L__law_plain_style_1) (v := .int 0) (VOk.int 0) 1 2 (fun d s' => [.val (.int s), .own d, s']) (fun _ _ _ => rfl) (fun d k d' h => by
    unfold L__law_plain_style_1
    show (sDPut 1 (eK (.int 0)) (eB 2)) [.val (.int s), .own d, .val (.str k)] = _
    rw [sDPut_r]
    show ((dPut d (.str k) (.int 0)).bind _) = _
    rw [h]; rfl) ["margin_left", "margin_right", "margin_top", "margin_bottom", "padding", "border", "background"] 8 _ _ .un s2 (by decide)
  obtain ⟨m4, t4, e4, s4⟩ := putsGo (b := L__law_plain_style_2) (v := .int 0) (VOk.int 0) 1 2 (fun d s' => [.val (.int s), .own d, s']) (fun _ _ _ => rfl) (fun d k d' h => by
    unfold L__law_plain_style_2
    show (sDPut 1 (eK (.int 0)) (eB 2)) [.val (.int s), .own d, .val (.str k)] = _
    rw [sDPut_r]
    show ((dPut d (.str k) (.int 0)).bind _) = _
    rw [h]; rfl) ["lead", "grow", "gap", "level"] _ _ _ t3 s3 (by decide)
  obtain ⟨m5, t5, e5, s5⟩ := putsGo (b := L__law_plain_style_3) (v := .int 1) (VOk.int 1) 1 2 (fun d s' => [.val (.int s), .own d, s']) (fun _ _ _ => rfl) (fun d k d' h => by
    unfold L__law_plain_style_3
    show (sDPut 1 (eK (.int 1)) (eB 2)) [.val (.int s), .own d, .val (.str k)] = _
    rw [sDPut_r]
    show ((dPut d (.str k) (.int 1)).bind _) = _
    rw [h]; rfl) ["border_color", "color", "shrink"] _ _ _ t4 s4 (by decide)
  have s6 := s5.put (k := "size") (VOk.int s)
  have s7 := s6.put (k := "align") (VOk.str (x := "left") (by decide +kernel))
  have s8 := s7.put (k := "columns") (VOk.int 2)
  have s9 := s8.put (k := "clip") (VOk.str (x := "open") (by decide +kernel))
  have s10 := s9.put (k := "wrap") (VOk.str (x := "one") (by decide +kernel))
  have s11 := s10.put (k := "span") (VOk.int 1)
  have le7 : 7 ≤ sizeLine := size_le (by decide)
  have le4 : 4 ≤ sizeLine := size_le (by decide)
  have le3 : 3 ≤ sizeLine := size_le (by decide)
  refine ⟨_, _, box_rt rfl ?_, { s11 with len := Nat.le_trans s11.len (by decide) }⟩
  show B__law_plain_style [.val (.int s), .un, .un] = _
  unfold B__law_plain_style
  rw [seq_nx (sOwn_eq h0 (by simp))]
  show sSeqn _ _ [.val (.int s), .own (encS m0), .un] = _
  rw [seq_nx (dputS (m := m0) (k := "least_width") (v := .int 0) rfl rfl rfl (s0.lt (by decide)))]
  rw [seq_nx (dputS (k := "most_width") (v := .int 1000) rfl rfl rfl (s1.lt (by decide)))]
  simp only [List.set_cons_succ, List.set_cons_zero]
  rw [seq_nx ((sFor_eq (ds := List.map PyData.str ["margin_left", "margin_right", "margin_top", "margin_bottom", "padding", "border", "background"]) (by
    rw [sSeq_r, eLst_r]
    simp only [eK_r, eV_0, eV_s, eB_0v, eB_0b, eB_0p, eB_0o, eB_s, eP_0v, eP_0b, eP_s, eS_0, eS_s, getS_0, getS_s, aNil_r, aCons_r, eOp_r, eUn_r, eCall_r, eBm_r, eTup_r, eLst_r, eIf_r, eAnd_r, eOr_r, eNot_r, eIs_r, eChain_r, eSl_r, oNo_r, oSo_r, asI_r, bT_r, bV_r, bYes_r, asB_r, truth_b, truth_l, truth_t, truth_n, truth_i, bAnd_r, bOr_r, bNot_r, oAdd_i, oSub_i, oNeg_i, oLt_i, oLe_i, oGt_i, oGe_i, cInt_i, cInt_b, cLen_l, cLen_t, cList_l, cList_t, cMax2_i, cMin2_i, cAbs_i, isT_int_i, isT_bool_i, isT_bool_b, isT_int_b, isT_tuple_t, isT_list_l, oEq_i, oNe_i, oEq_b, oNe_b, oIsN_n, oNotN_n, oIsN_i, oNotN_i, oIsB_b, oNotB_b, sSeqn_r, sNext_r, sBrk_r, sCnt_r, sRetN_r, sExpr_r, sRet_r, sRetOwn_r, sIf_r, sSet_r, sOwn_r, sAsg_r, gV_r, gT_r, gsNil_r, gsCons_r, sFz_r, sAug_r, addI_r, subI_r, sSeq_r, sArgs_r, itemsOf_l, itemsOf_t, sMut_r, fApp_r, Option.bind_some, Option.map_some, List.length_cons, List.length_nil, Nat.zero_add, Nat.reduceAdd, Nat.reduceLT, Nat.reduceLeDiff, List.set_cons_zero, List.set_cons_succ, if_true, Bool.false_eq_true, if_false, Bool.not_true, Bool.not_false, decide_true, decide_false, reduceCtorEq, le7]
    rfl)).trans e3)]
  rw [seq_nx ((sFor_eq (ds := List.map PyData.str ["lead", "grow", "gap", "level"]) (by
    rw [sSeq_r, eLst_r]
    simp only [eK_r, eV_0, eV_s, eB_0v, eB_0b, eB_0p, eB_0o, eB_s, eP_0v, eP_0b, eP_s, eS_0, eS_s, getS_0, getS_s, aNil_r, aCons_r, eOp_r, eUn_r, eCall_r, eBm_r, eTup_r, eLst_r, eIf_r, eAnd_r, eOr_r, eNot_r, eIs_r, eChain_r, eSl_r, oNo_r, oSo_r, asI_r, bT_r, bV_r, bYes_r, asB_r, truth_b, truth_l, truth_t, truth_n, truth_i, bAnd_r, bOr_r, bNot_r, oAdd_i, oSub_i, oNeg_i, oLt_i, oLe_i, oGt_i, oGe_i, cInt_i, cInt_b, cLen_l, cLen_t, cList_l, cList_t, cMax2_i, cMin2_i, cAbs_i, isT_int_i, isT_bool_i, isT_bool_b, isT_int_b, isT_tuple_t, isT_list_l, oEq_i, oNe_i, oEq_b, oNe_b, oIsN_n, oNotN_n, oIsN_i, oNotN_i, oIsB_b, oNotB_b, sSeqn_r, sNext_r, sBrk_r, sCnt_r, sRetN_r, sExpr_r, sRet_r, sRetOwn_r, sIf_r, sSet_r, sOwn_r, sAsg_r, gV_r, gT_r, gsNil_r, gsCons_r, sFz_r, sAug_r, addI_r, subI_r, sSeq_r, sArgs_r, itemsOf_l, itemsOf_t, sMut_r, fApp_r, Option.bind_some, Option.map_some, List.length_cons, List.length_nil, Nat.zero_add, Nat.reduceAdd, Nat.reduceLT, Nat.reduceLeDiff, List.set_cons_zero, List.set_cons_succ, if_true, Bool.false_eq_true, if_false, Bool.not_true, Bool.not_false, decide_true, decide_false, reduceCtorEq, le4]
    rfl)).trans e4)]
  rw [seq_nx ((sFor_eq (ds := List.map PyData.str ["border_color", "color", "shrink"]) (by
    rw [sSeq_r, eLst_r]
    simp only [eK_r, eV_0, eV_s, eB_0v, eB_0b, eB_0p, eB_0o, eB_s, eP_0v, eP_0b, eP_s, eS_0, eS_s, getS_0, getS_s, aNil_r, aCons_r, eOp_r, eUn_r, eCall_r, eBm_r, eTup_r, eLst_r, eIf_r, eAnd_r, eOr_r, eNot_r, eIs_r, eChain_r, eSl_r, oNo_r, oSo_r, asI_r, bT_r, bV_r, bYes_r, asB_r, truth_b, truth_l, truth_t, truth_n, truth_i, bAnd_r, bOr_r, bNot_r, oAdd_i, oSub_i, oNeg_i, oLt_i, oLe_i, oGt_i, oGe_i, cInt_i, cInt_b, cLen_l, cLen_t, cList_l, cList_t, cMax2_i, cMin2_i, cAbs_i, isT_int_i, isT_bool_i, isT_bool_b, isT_int_b, isT_tuple_t, isT_list_l, oEq_i, oNe_i, oEq_b, oNe_b, oIsN_n, oNotN_n, oIsN_i, oNotN_i, oIsB_b, oNotB_b, sSeqn_r, sNext_r, sBrk_r, sCnt_r, sRetN_r, sExpr_r, sRet_r, sRetOwn_r, sIf_r, sSet_r, sOwn_r, sAsg_r, gV_r, gT_r, gsNil_r, gsCons_r, sFz_r, sAug_r, addI_r, subI_r, sSeq_r, sArgs_r, itemsOf_l, itemsOf_t, sMut_r, fApp_r, Option.bind_some, Option.map_some, List.length_cons, List.length_nil, Nat.zero_add, Nat.reduceAdd, Nat.reduceLT, Nat.reduceLeDiff, List.set_cons_zero, List.set_cons_succ, if_true, Bool.false_eq_true, if_false, Bool.not_true, Bool.not_false, decide_true, decide_false, reduceCtorEq, le3]
    rfl)).trans e5)]
  rw [seq_nx (dputS (m := m5) (k := "size") (v := .int s) rfl rfl rfl (s5.lt (by decide)))]
  rw [seq_nx (dputS (k := "align") (v := .str "left") rfl rfl rfl (s6.lt (by decide)))]
  rw [seq_nx (dputS (k := "columns") (v := .int 2) rfl rfl rfl (s7.lt (by decide)))]
  rw [seq_nx (dputS (k := "clip") (v := .str "open") rfl rfl rfl (s8.lt (by decide)))]
  rw [seq_nx (dputS (k := "wrap") (v := .str "one") rfl rfl rfl (s9.lt (by decide)))]
  rw [seq_nx (dputS (k := "span") (v := .int 1) rfl rfl rfl (s10.lt (by decide)))]
  rfl
/-- a chosen number within bounds -/
theorem pick3 {n a b lo : Int} {d1 d2 d3 : Int} (hn : 0 ≤ n) : ∃ v : Int, oIx (.list [.int d1, .int d2, .int d3]) (.int (n % 3)) = some (.int v) ∧ (v = d1 ∨ v = d2 ∨ v = d3) := by
  obtain ⟨v, hv, e⟩ := pickI [d1, d2, d3] (i := n % 3) (by omega) (by simp; omega)
  have e : oIx (.list [.int d1, .int d2, .int d3]) (.int (n % 3)) = some (.int v) := e
  exact ⟨v, e, by simpa using hv⟩
theorem pick4 {n : Int} {d1 d2 d3 d4 : Int} (hn : 0 ≤ n) : ∃ v : Int, oIx (.list [.int d1, .int d2, .int d3, .int d4]) (.int (n % 4)) = some (.int v) ∧ (v = d1 ∨ v = d2 ∨ v = d3 ∨ v = d4) := by
  obtain ⟨v, hv, e⟩ := pickI [d1, d2, d3, d4] (i := n % 4) (by omega) (by simp; omega)
  have e : oIx (.list [.int d1, .int d2, .int d3, .int d4]) (.int (n % 4)) = some (.int v) := e
  exact ⟨v, e, by simpa using hv⟩
theorem modB {a b : Int} (hb : 0 < b) : 0 ≤ a % b ∧ a % b < b := ⟨Int.emod_nonneg _ (by omega), Int.emod_lt_of_pos _ hb⟩
def StyleOk (m : List (Str × PyData)) (lw mw pd bd : Int) : Prop := (∃ g, Sty 60 g m ∧ g "least_width" = some (.int lw) ∧ g "most_width" = some (.int mw) ∧ g "padding" = some (.int pd) ∧ g "border" = some (.int bd)) ∧ (0 ≤ lw ∧ lw ≤ 1000) ∧ (0 ≤ mw ∧ mw ≤ 1000) ∧ (0 ≤ pd ∧ pd ≤ 100) ∧ (0 ≤ bd ∧ bd ≤ 100)
theorem box_ex (N s : Int) (hN : 0 ≤ N) : ∃ m lw mw pd bd, F__law_box_style [.int N, .int s] = some (encS m) ∧ StyleOk m lw mw pd bd := by
  obtain ⟨g0, m0, e0, s0⟩ := plain_ex s
  have le7 : 7 ≤ sizeLine := size_le (by decide)
  have le5 : 5 ≤ sizeLine := size_le (by decide)
  have le4 : 4 ≤ sizeLine := size_le (by decide)
  have le3 : 3 ≤ sizeLine := size_le (by decide)
  have le2 : 2 ≤ sizeLine := size_le (by decide)
  -- display
  have a1 : oMod (.int N) (.int 7) = some (.int (N % 7)) := oMod_i (by omega)
  obtain ⟨v1, hv1, p1⟩ := pickD [.str "block", .str "row", .str "grid", .str "lines", .str "block", .str "row", .str "none"] (i := N % 7) (by omega) (by simp; omega)
  have ok1 : VOk v1 := by
    simp only [List.mem_cons, List.not_mem_nil, or_false] at hv1
    rcases hv1 with rfl | rfl | rfl | rfl | rfl | rfl | rfl <;> exact VOk.str (by decide +kernel)
  have s1 := s0.put (k := "display") ok1
  -- place
  have a2 : oFdiv (.int N) (.int 7) = some (.int (N / 7)) := oFdiv_i (by omega) (by omega)
  have a3 : oMod (.int (N / 7)) (.int 5) = some (.int (N / 7 % 5)) := oMod_i (by omega)
  obtain ⟨v2, hv2, p2⟩ := pickD [.str "flow", .str "flow", .str "flow", .str "shifted", .str "free"] (i := N / 7 % 5) (by omega) (by simp; omega)
  have ok2 : VOk v2 := by
    simp only [List.mem_cons, List.not_mem_nil, or_false] at hv2
    rcases hv2 with rfl | rfl | rfl | rfl | rfl <;> exact VOk.str (by decide +kernel)
  have s2 := s1.put (k := "place") ok2
  -- width
  have a4 : oFdiv (.int N) (.int 35) = some (.int (N / 35)) := oFdiv_i (by omega) (by omega)
  generalize hN1 : N / 35 = N1 at *
  have hN1 : 0 ≤ N1 := by omega
  have a5 : oFdiv (.int N1) (.int 5) = some (.int (N1 / 5)) := oFdiv_i (by omega) (by omega)
  have a6 : oMod (.int (N1 / 5)) (.int 101) = some (.int (N1 / 5 % 101)) := oMod_i (by omega)
  have a7 : oMod (.int (N1 / 5)) (.int 1001) = some (.int (N1 / 5 % 1001)) := oMod_i (by omega)
  have a8 : oMod (.int N1) (.int 5) = some (.int (N1 % 5)) := oMod_i (by omega)
  generalize N1 / 5 % 101 = part at *
  generalize N1 / 5 % 1001 = wid at *
  obtain ⟨v3, hv3, p3⟩ := pickD [.str "auto", .str "auto", .str "auto", .int wid, .tuple [.str "part", .int part]] (i := N1 % 5) (by omega) (by simp; omega)
  have ok3 : VOk v3 := by
    simp only [List.mem_cons, List.not_mem_nil, or_false] at hv3
    rcases hv3 with rfl | rfl | rfl | rfl | rfl
    · exact VOk.str (by decide +kernel)
    · exact VOk.str (by decide +kernel)
    · exact VOk.str (by decide +kernel)
    · exact VOk.int _
    · show clean 9 (.tuple [.str "part", .int part]) = true
      have : PyData.strOk "part" = true := by decide +kernel
      simp [clean, cleanA, this]
  have s3 := s2.put (k := "width") ok3
  -- least_width, most_width
  have a9 : oFdiv (.int N1) (.int 5005) = some (.int (N1 / 5005)) := oFdiv_i (by omega) (by omega)
  generalize hN2 : N1 / 5005 = N2 at *
  have hN2 : 0 ≤ N2 := by omega
  have b1 : oFdiv (.int N2) (.int 4) = some (.int (N2 / 4)) := oFdiv_i (by omega) (by omega)
  have b2 : oMod (.int (N2 / 4)) (.int 1001) = some (.int (N2 / 4 % 1001)) := oMod_i (by omega)
  have b3 : oMod (.int (N2 / 4)) (.int 30) = some (.int (N2 / 4 % 30)) := oMod_i (by omega)
  have b4 : oMod (.int N2) (.int 4) = some (.int (N2 % 4)) := oMod_i (by omega)
  have b5 : oFdiv (.int N2) (.int 16016) = some (.int (N2 / 16016)) := oFdiv_i (by omega) (by omega)
  have b6 : oMod (.int (N2 / 16016)) (.int 1001) = some (.int (N2 / 16016 % 1001)) := oMod_i (by omega)
  have b7 : oMod (.int (N2 / 16016)) (.int 60) = some (.int (N2 / 16016 % 60)) := oMod_i (by omega)
  have b8 : oFdiv (.int N2) (.int 4004) = some (.int (N2 / 4004)) := oFdiv_i (by omega) (by omega)
  have b9 : oMod (.int (N2 / 4004)) (.int 4) = some (.int (N2 / 4004 % 4)) := oMod_i (by omega)
  obtain ⟨lw, p4, h4⟩ := pick4 (n := N2) (d1 := 0) (d2 := 0) (d3 := N2 / 4 % 1001) (d4 := N2 / 4 % 30) hN2
  obtain ⟨mw, p5, h5⟩ := pick4 (n := N2 / 4004) (d1 := 1000) (d2 := 1000) (d3 := N2 / 16016 % 1001) (d4 := N2 / 16016 % 60) (by omega)
  have hlw : 0 ≤ lw ∧ lw ≤ 1000 := by
    have := modB (a := N2 / 4) (b := 1001) (by omega)
    have := modB (a := N2 / 4) (b := 30) (by omega)
    omega
  have hmw : 0 ≤ mw ∧ mw ≤ 1000 := by
    have := modB (a := N2 / 16016) (b := 1001) (by omega)
    have := modB (a := N2 / 16016) (b := 60) (by omega)
    omega
  have s4 := s3.put (k := "least_width") (VOk.int lw)
  have s5 := s4.put (k := "most_width") (VOk.int mw)
  -- margins
  have c1 := mixed_eq N2
  have hM := mixV_b N2
  generalize mixV N2 = M at *
  have c2 : oFdiv (.int M) (.int 3) = some (.int (M / 3)) := oFdiv_i (by omega) (by omega)
  have c3 : oMod (.int (M / 3)) (.int 9) = some (.int (M / 3 % 9)) := oMod_i (by omega)
  have c4 : oMod (.int (M / 3)) (.int 101) = some (.int (M / 3 % 101)) := oMod_i (by omega)
  have c5 : oMod (.int M) (.int 3) = some (.int (M % 3)) := oMod_i (by omega)
  have c6 : oFdiv (.int M) (.int 909) = some (.int (M / 909)) := oFdiv_i (by omega) (by omega)
  have c7 : oMod (.int (M / 909)) (.int 9) = some (.int (M / 909 % 9)) := oMod_i (by omega)
  have c8 : oMod (.int (M / 909)) (.int 101) = some (.int (M / 909 % 101)) := oMod_i (by omega)
  have c9 : oFdiv (.int M) (.int 303) = some (.int (M / 303)) := oFdiv_i (by omega) (by omega)
  have c0 : oMod (.int (M / 303)) (.int 3) = some (.int (M / 303 % 3)) := oMod_i (by omega)
  obtain ⟨v6, p6, _⟩ := pick3 (n := M) (a := 0) (b := 0) (lo := 0) (d1 := 0) (d2 := M / 3 % 9) (d3 := M / 3 % 101) (by omega)
  obtain ⟨v7, p7, _⟩ := pick3 (n := M / 303) (a := 0) (b := 0) (lo := 0) (d1 := 0) (d2 := M / 909 % 9) (d3 := M / 909 % 101) (by omega)
  have s6 := s5.put (k := "margin_left") (VOk.int v6)
  have s7 := s6.put (k := "margin_right") (VOk.int v7)
  -- padding, border
  have f1 : oFdiv (.int M) (.int 91809) = some (.int (M / 91809)) := oFdiv_i (by omega) (by omega)
  generalize hO : M / 91809 = O at *
  have hO : 0 ≤ O := by omega
  have f2 : oFdiv (.int O) (.int 3) = some (.int (O / 3)) := oFdiv_i (by omega) (by omega)
  have f3 : oMod (.int (O / 3)) (.int 9) = some (.int (O / 3 % 9)) := oMod_i (by omega)
  have f4 : oMod (.int (O / 3)) (.int 101) = some (.int (O / 3 % 101)) := oMod_i (by omega)
  have f5 : oMod (.int O) (.int 3) = some (.int (O % 3)) := oMod_i (by omega)
  have f6 : oFdiv (.int O) (.int 909) = some (.int (O / 909)) := oFdiv_i (by omega) (by omega)
  have f7 : oMod (.int (O / 909)) (.int 9) = some (.int (O / 909 % 9)) := oMod_i (by omega)
  have f8 : oMod (.int (O / 909)) (.int 101) = some (.int (O / 909 % 101)) := oMod_i (by omega)
  have f9 : oFdiv (.int O) (.int 303) = some (.int (O / 303)) := oFdiv_i (by omega) (by omega)
  have f0 : oMod (.int (O / 303)) (.int 3) = some (.int (O / 303 % 3)) := oMod_i (by omega)
  obtain ⟨pd, p8, h8⟩ := pick3 (n := O) (a := 0) (b := 0) (lo := 0) (d1 := 0) (d2 := O / 3 % 9) (d3 := O / 3 % 101) (by omega)
  obtain ⟨bd, p9, h9⟩ := pick3 (n := O / 303) (a := 0) (b := 0) (lo := 0) (d1 := 0) (d2 := O / 909 % 9) (d3 := O / 909 % 101) (by omega)
  have hpd : 0 ≤ pd ∧ pd ≤ 100 := by
    have := modB (a := O / 3) (b := 9) (by omega)
    have := modB (a := O / 3) (b := 101) (by omega)
    omega
  have hbd : 0 ≤ bd ∧ bd ≤ 100 := by
    have := modB (a := O / 909) (b := 9) (by omega)
    have := modB (a := O / 909) (b := 101) (by omega)
    omega
  have s8 := s7.put (k := "padding") (VOk.int pd)
  have s9 := s8.put (k := "border") (VOk.int bd)
  have s10 := s9.put (k := "margin_top") (VOk.int 5)
  have i1 : oFdiv (.int O) (.int 91809) = some (.int (O / 91809)) := oFdiv_i (by omega) (by omega)
  have i2 : oMod (.int (O / 91809)) (.int 101) = some (.int (O / 91809 % 101)) := oMod_i (by omega)
  have i3 : oFdiv (.int O) (.int 9272709) = some (.int (O / 9272709)) := oFdiv_i (by omega) (by omega)
  have i4 : oMod (.int (O / 9272709)) (.int 10) = some (.int (O / 9272709 % 10)) := oMod_i (by omega)
  generalize O / 91809 % 101 = gp at *
  generalize O / 9272709 % 10 = cl at *
  have s11 := s10.put (k := "gap") (VOk.int gp)
  have s12 := s11.put (k := "columns") (VOk.int (1 + cl))
  have ne1 : ∀ {a b : Str}, decide (a = b) = false → a ≠ b := fun h => of_decide_eq_false h
  refine ⟨_, lw, mw, pd, bd, box_rt rfl ?_, ⟨_, { s12 with len := Nat.le_trans s12.len (by decide) }, ?_, ?_, ?_, ?_⟩, hlw, hmw, hpd, hbd⟩
  · show B__law_box_style [.bor (.int N), .val (.int s), .un, .un] = _
    unfold B__law_box_style
    rw [seq_nx (ρ' := [.bor (.int N), .val (.int s), .own (encS m0), .un]) (by simp only [eK_r, eV_0, eV_s, eB_0v, eB_0b, eB_0p, eB_0o, eB_s, eP_0v, eP_0b, eP_s, eS_0, eS_s, getS_0, getS_s, aNil_r, aCons_r, eOp_r, eUn_r, eCall_r, eBm_r, eTup_r, eLst_r, eIf_r, eAnd_r, eOr_r, eNot_r, eIs_r, eChain_r, eSl_r, oNo_r, oSo_r, asI_r, bT_r, bV_r, bYes_r, asB_r, truth_b, truth_l, truth_t, truth_n, truth_i, bAnd_r, bOr_r, bNot_r, oAdd_i, oSub_i, oNeg_i, oLt_i, oLe_i, oGt_i, oGe_i, cInt_i, cInt_b, cLen_l, cLen_t, cList_l, cList_t, cMax2_i, cMin2_i, cAbs_i, isT_int_i, isT_bool_i, isT_bool_b, isT_int_b, isT_tuple_t, isT_list_l, oEq_i, oNe_i, oEq_b, oNe_b, oIsN_n, oNotN_n, oIsN_i, oNotN_i, oIsB_b, oNotB_b, sSeqn_r, sNext_r, sBrk_r, sCnt_r, sRetN_r, sExpr_r, sRet_r, sRetOwn_r, sIf_r, sSet_r, sOwn_r, sAsg_r, gV_r, gT_r, gsNil_r, gsCons_r, sFz_r, sAug_r, addI_r, subI_r, sSeq_r, sArgs_r, itemsOf_l, itemsOf_t, sMut_r, fApp_r, Option.bind_some, Option.map_some, List.length_cons, List.length_nil, Nat.zero_add, Nat.reduceAdd, Nat.reduceLT, Nat.reduceLeDiff, List.set_cons_zero, List.set_cons_succ, if_true, Bool.false_eq_true, if_false, Bool.not_true, Bool.not_false, decide_true, decide_false, reduceCtorEq, e0])]
    rw [seq_nx (dputS (k := "display") (v := v1) rfl (by simp only [eK_r, eV_0, eV_s, eB_0v, eB_0b, eB_0p, eB_0o, eB_s, eP_0v, eP_0b, eP_s, eS_0, eS_s, getS_0, getS_s, aNil_r, aCons_r, eOp_r, eUn_r, eCall_r, eBm_r, eTup_r, eLst_r, eIf_r, eAnd_r, eOr_r, eNot_r, eIs_r, eChain_r, eSl_r, oNo_r, oSo_r, asI_r, bT_r, bV_r, bYes_r, asB_r, truth_b, truth_l, truth_t, truth_n, truth_i, bAnd_r, bOr_r, bNot_r, oAdd_i, oSub_i, oNeg_i, oLt_i, oLe_i, oGt_i, oGe_i, cInt_i, cInt_b, cLen_l, cLen_t, cList_l, cList_t, cMax2_i, cMin2_i, cAbs_i, isT_int_i, isT_bool_i, isT_bool_b, isT_int_b, isT_tuple_t, isT_list_l, oEq_i, oNe_i, oEq_b, oNe_b, oIsN_n, oNotN_n, oIsN_i, oNotN_i, oIsB_b, oNotB_b, sSeqn_r, sNext_r, sBrk_r, sCnt_r, sRetN_r, sExpr_r, sRet_r, sRetOwn_r, sIf_r, sSet_r, sOwn_r, sAsg_r, gV_r, gT_r, gsNil_r, gsCons_r, sFz_r, sAug_r, addI_r, subI_r, sSeq_r, sArgs_r, itemsOf_l, itemsOf_t, sMut_r, fApp_r, Option.bind_some, Option.map_some, List.length_cons, List.length_nil, Nat.zero_add, Nat.reduceAdd, Nat.reduceLT, Nat.reduceLeDiff, List.set_cons_zero, List.set_cons_succ, if_true, Bool.false_eq_true, if_false, Bool.not_true, Bool.not_false, decide_true, decide_false, reduceCtorEq, a1, le7, p1]) rfl (s0.lt (by decide)))]
    rw [seq_nx (dputS (k := "place") (v := v2) rfl (by simp only [eK_r, eV_0, eV_s, eB_0v, eB_0b, eB_0p, eB_0o, eB_s, eP_0v, eP_0b, eP_s, eS_0, eS_s, getS_0, getS_s, aNil_r, aCons_r, eOp_r, eUn_r, eCall_r, eBm_r, eTup_r, eLst_r, eIf_r, eAnd_r, eOr_r, eNot_r, eIs_r, eChain_r, eSl_r, oNo_r, oSo_r, asI_r, bT_r, bV_r, bYes_r, asB_r, truth_b, truth_l, truth_t, truth_n, truth_i, bAnd_r, bOr_r, bNot_r, oAdd_i, oSub_i, oNeg_i, oLt_i, oLe_i, oGt_i, oGe_i, cInt_i, cInt_b, cLen_l, cLen_t, cList_l, cList_t, cMax2_i, cMin2_i, cAbs_i, isT_int_i, isT_bool_i, isT_bool_b, isT_int_b, isT_tuple_t, isT_list_l, oEq_i, oNe_i, oEq_b, oNe_b, oIsN_n, oNotN_n, oIsN_i, oNotN_i, oIsB_b, oNotB_b, sSeqn_r, sNext_r, sBrk_r, sCnt_r, sRetN_r, sExpr_r, sRet_r, sRetOwn_r, sIf_r, sSet_r, sOwn_r, sAsg_r, gV_r, gT_r, gsNil_r, gsCons_r, sFz_r, sAug_r, addI_r, subI_r, sSeq_r, sArgs_r, itemsOf_l, itemsOf_t, sMut_r, fApp_r, Option.bind_some, Option.map_some, List.length_cons, List.length_nil, Nat.zero_add, Nat.reduceAdd, Nat.reduceLT, Nat.reduceLeDiff, List.set_cons_zero, List.set_cons_succ, if_true, Bool.false_eq_true, if_false, Bool.not_true, Bool.not_false, decide_true, decide_false, reduceCtorEq, a2, a3, le5, p2]) rfl (s1.lt (by decide)))]
    simp only [List.set_cons_succ, List.set_cons_zero]
    rw [seq_nx (sSet_eq (d := .int N1) (by simp only [eK_r, eV_0, eV_s, eB_0v, eB_0b, eB_0p, eB_0o, eB_s, eP_0v, eP_0b, eP_s, eS_0, eS_s, getS_0, getS_s, aNil_r, aCons_r, eOp_r, eUn_r, eCall_r, eBm_r, eTup_r, eLst_r, eIf_r, eAnd_r, eOr_r, eNot_r, eIs_r, eChain_r, eSl_r, oNo_r, oSo_r, asI_r, bT_r, bV_r, bYes_r, asB_r, truth_b, truth_l, truth_t, truth_n, truth_i, bAnd_r, bOr_r, bNot_r, oAdd_i, oSub_i, oNeg_i, oLt_i, oLe_i, oGt_i, oGe_i, cInt_i, cInt_b, cLen_l, cLen_t, cList_l, cList_t, cMax2_i, cMin2_i, cAbs_i, isT_int_i, isT_bool_i, isT_bool_b, isT_int_b, isT_tuple_t, isT_list_l, oEq_i, oNe_i, oEq_b, oNe_b, oIsN_n, oNotN_n, oIsN_i, oNotN_i, oIsB_b, oNotB_b, sSeqn_r, sNext_r, sBrk_r, sCnt_r, sRetN_r, sExpr_r, sRet_r, sRetOwn_r, sIf_r, sSet_r, sOwn_r, sAsg_r, gV_r, gT_r, gsNil_r, gsCons_r, sFz_r, sAug_r, addI_r, subI_r, sSeq_r, sArgs_r, itemsOf_l, itemsOf_t, sMut_r, fApp_r, Option.bind_some, Option.map_some, List.length_cons, List.length_nil, Nat.zero_add, Nat.reduceAdd, Nat.reduceLT, Nat.reduceLeDiff, List.set_cons_zero, List.set_cons_succ, if_true, Bool.false_eq_true, if_false, Bool.not_true, Bool.not_false, decide_true, decide_false, reduceCtorEq, a4]) (by simp))]
    rw [seq_nx (sSet_eq (d := .tuple [.str "part", .int part]) (by simp only [eK_r, eV_0, eV_s, eB_0v, eB_0b, eB_0p, eB_0o, eB_s, eP_0v, eP_0b, eP_s, eS_0, eS_s, getS_0, getS_s, aNil_r, aCons_r, eOp_r, eUn_r, eCall_r, eBm_r, eTup_r, eLst_r, eIf_r, eAnd_r, eOr_r, eNot_r, eIs_r, eChain_r, eSl_r, oNo_r, oSo_r, asI_r, bT_r, bV_r, bYes_r, asB_r, truth_b, truth_l, truth_t, truth_n, truth_i, bAnd_r, bOr_r, bNot_r, oAdd_i, oSub_i, oNeg_i, oLt_i, oLe_i, oGt_i, oGe_i, cInt_i, cInt_b, cLen_l, cLen_t, cList_l, cList_t, cMax2_i, cMin2_i, cAbs_i, isT_int_i, isT_bool_i, isT_bool_b, isT_int_b, isT_tuple_t, isT_list_l, oEq_i, oNe_i, oEq_b, oNe_b, oIsN_n, oNotN_n, oIsN_i, oNotN_i, oIsB_b, oNotB_b, sSeqn_r, sNext_r, sBrk_r, sCnt_r, sRetN_r, sExpr_r, sRet_r, sRetOwn_r, sIf_r, sSet_r, sOwn_r, sAsg_r, gV_r, gT_r, gsNil_r, gsCons_r, sFz_r, sAug_r, addI_r, subI_r, sSeq_r, sArgs_r, itemsOf_l, itemsOf_t, sMut_r, fApp_r, Option.bind_some, Option.map_some, List.length_cons, List.length_nil, Nat.zero_add, Nat.reduceAdd, Nat.reduceLT, Nat.reduceLeDiff, List.set_cons_zero, List.set_cons_succ, if_true, Bool.false_eq_true, if_false, Bool.not_true, Bool.not_false, decide_true, decide_false, reduceCtorEq, a5, a6, le2]) (by simp))]
    simp only [List.set_cons_succ, List.set_cons_zero]
    rw [seq_nx (dputS (k := "width") (v := v3) rfl (by simp only [eK_r, eV_0, eV_s, eB_0v, eB_0b, eB_0p, eB_0o, eB_s, eP_0v, eP_0b, eP_s, eS_0, eS_s, getS_0, getS_s, aNil_r, aCons_r, eOp_r, eUn_r, eCall_r, eBm_r, eTup_r, eLst_r, eIf_r, eAnd_r, eOr_r, eNot_r, eIs_r, eChain_r, eSl_r, oNo_r, oSo_r, asI_r, bT_r, bV_r, bYes_r, asB_r, truth_b, truth_l, truth_t, truth_n, truth_i, bAnd_r, bOr_r, bNot_r, oAdd_i, oSub_i, oNeg_i, oLt_i, oLe_i, oGt_i, oGe_i, cInt_i, cInt_b, cLen_l, cLen_t, cList_l, cList_t, cMax2_i, cMin2_i, cAbs_i, isT_int_i, isT_bool_i, isT_bool_b, isT_int_b, isT_tuple_t, isT_list_l, oEq_i, oNe_i, oEq_b, oNe_b, oIsN_n, oNotN_n, oIsN_i, oNotN_i, oIsB_b, oNotB_b, sSeqn_r, sNext_r, sBrk_r, sCnt_r, sRetN_r, sExpr_r, sRet_r, sRetOwn_r, sIf_r, sSet_r, sOwn_r, sAsg_r, gV_r, gT_r, gsNil_r, gsCons_r, sFz_r, sAug_r, addI_r, subI_r, sSeq_r, sArgs_r, itemsOf_l, itemsOf_t, sMut_r, fApp_r, Option.bind_some, Option.map_some, List.length_cons, List.length_nil, Nat.zero_add, Nat.reduceAdd, Nat.reduceLT, Nat.reduceLeDiff, List.set_cons_zero, List.set_cons_succ, if_true, Bool.false_eq_true, if_false, Bool.not_true, Bool.not_false, decide_true, decide_false, reduceCtorEq, a5, a7, a8, le5, p3]) rfl (s2.lt (by decide)))]
    simp only [List.set_cons_succ, List.set_cons_zero]
    rw [seq_nx (sSet_eq (d := .int N2) (by simp only [eK_r, eV_0, eV_s, eB_0v, eB_0b, eB_0p, eB_0o, eB_s, eP_0v, eP_0b, eP_s, eS_0, eS_s, getS_0, getS_s, aNil_r, aCons_r, eOp_r, eUn_r, eCall_r, eBm_r, eTup_r, eLst_r, eIf_r, eAnd_r, eOr_r, eNot_r, eIs_r, eChain_r, eSl_r, oNo_r, oSo_r, asI_r, bT_r, bV_r, bYes_r, asB_r, truth_b, truth_l, truth_t, truth_n, truth_i, bAnd_r, bOr_r, bNot_r, oAdd_i, oSub_i, oNeg_i, oLt_i, oLe_i, oGt_i, oGe_i, cInt_i, cInt_b, cLen_l, cLen_t, cList_l, cList_t, cMax2_i, cMin2_i, cAbs_i, isT_int_i, isT_bool_i, isT_bool_b, isT_int_b, isT_tuple_t, isT_list_l, oEq_i, oNe_i, oEq_b, oNe_b, oIsN_n, oNotN_n, oIsN_i, oNotN_i, oIsB_b, oNotB_b, sSeqn_r, sNext_r, sBrk_r, sCnt_r, sRetN_r, sExpr_r, sRet_r, sRetOwn_r, sIf_r, sSet_r, sOwn_r, sAsg_r, gV_r, gT_r, gsNil_r, gsCons_r, sFz_r, sAug_r, addI_r, subI_r, sSeq_r, sArgs_r, itemsOf_l, itemsOf_t, sMut_r, fApp_r, Option.bind_some, Option.map_some, List.length_cons, List.length_nil, Nat.zero_add, Nat.reduceAdd, Nat.reduceLT, Nat.reduceLeDiff, List.set_cons_zero, List.set_cons_succ, if_true, Bool.false_eq_true, if_false, Bool.not_true, Bool.not_false, decide_true, decide_false, reduceCtorEq, a9]) (by simp))]
    simp only [List.set_cons_succ, List.set_cons_zero]
    rw [seq_nx (dputS (k := "least_width") (v := .int lw) rfl (by simp only [eK_r, eV_0, eV_s, eB_0v, eB_0b, eB_0p, eB_0o, eB_s, eP_0v, eP_0b, eP_s, eS_0, eS_s, getS_0, getS_s, aNil_r, aCons_r, eOp_r, eUn_r, eCall_r, eBm_r, eTup_r, eLst_r, eIf_r, eAnd_r, eOr_r, eNot_r, eIs_r, eChain_r, eSl_r, oNo_r, oSo_r, asI_r, bT_r, bV_r, bYes_r, asB_r, truth_b, truth_l, truth_t, truth_n, truth_i, bAnd_r, bOr_r, bNot_r, oAdd_i, oSub_i, oNeg_i, oLt_i, oLe_i, oGt_i, oGe_i, cInt_i, cInt_b, cLen_l, cLen_t, cList_l, cList_t, cMax2_i, cMin2_i, cAbs_i, isT_int_i, isT_bool_i, isT_bool_b, isT_int_b, isT_tuple_t, isT_list_l, oEq_i, oNe_i, oEq_b, oNe_b, oIsN_n, oNotN_n, oIsN_i, oNotN_i, oIsB_b, oNotB_b, sSeqn_r, sNext_r, sBrk_r, sCnt_r, sRetN_r, sExpr_r, sRet_r, sRetOwn_r, sIf_r, sSet_r, sOwn_r, sAsg_r, gV_r, gT_r, gsNil_r, gsCons_r, sFz_r, sAug_r, addI_r, subI_r, sSeq_r, sArgs_r, itemsOf_l, itemsOf_t, sMut_r, fApp_r, Option.bind_some, Option.map_some, List.length_cons, List.length_nil, Nat.zero_add, Nat.reduceAdd, Nat.reduceLT, Nat.reduceLeDiff, List.set_cons_zero, List.set_cons_succ, if_true, Bool.false_eq_true, if_false, Bool.not_true, Bool.not_false, decide_true, decide_false, reduceCtorEq, b1, b2, b3, b4, le4, p4]) rfl (s3.lt (by decide)))]
    rw [seq_nx (dputS (k := "most_width") (v := .int mw) rfl (by simp only [eK_r, eV_0, eV_s, eB_0v, eB_0b, eB_0p, eB_0o, eB_s, eP_0v, eP_0b, eP_s, eS_0, eS_s, getS_0, getS_s, aNil_r, aCons_r, eOp_r, eUn_r, eCall_r, eBm_r, eTup_r, eLst_r, eIf_r, eAnd_r, eOr_r, eNot_r, eIs_r, eChain_r, eSl_r, oNo_r, oSo_r, asI_r, bT_r, bV_r, bYes_r, asB_r, truth_b, truth_l, truth_t, truth_n, truth_i, bAnd_r, bOr_r, bNot_r, oAdd_i, oSub_i, oNeg_i, oLt_i, oLe_i, oGt_i, oGe_i, cInt_i, cInt_b, cLen_l, cLen_t, cList_l, cList_t, cMax2_i, cMin2_i, cAbs_i, isT_int_i, isT_bool_i, isT_bool_b, isT_int_b, isT_tuple_t, isT_list_l, oEq_i, oNe_i, oEq_b, oNe_b, oIsN_n, oNotN_n, oIsN_i, oNotN_i, oIsB_b, oNotB_b, sSeqn_r, sNext_r, sBrk_r, sCnt_r, sRetN_r, sExpr_r, sRet_r, sRetOwn_r, sIf_r, sSet_r, sOwn_r, sAsg_r, gV_r, gT_r, gsNil_r, gsCons_r, sFz_r, sAug_r, addI_r, subI_r, sSeq_r, sArgs_r, itemsOf_l, itemsOf_t, sMut_r, fApp_r, Option.bind_some, Option.map_some, List.length_cons, List.length_nil, Nat.zero_add, Nat.reduceAdd, Nat.reduceLT, Nat.reduceLeDiff, List.set_cons_zero, List.set_cons_succ, if_true, Bool.false_eq_true, if_false, Bool.not_true, Bool.not_false, decide_true, decide_false, reduceCtorEq, b5, b6, b7, b8, b9, le4, p5]) rfl (s4.lt (by decide)))]
    simp only [List.set_cons_succ, List.set_cons_zero]
    rw [seq_nx (sSet_eq (d := .int M) (by simp only [eK_r, eV_0, eV_s, eB_0v, eB_0b, eB_0p, eB_0o, eB_s, eP_0v, eP_0b, eP_s, eS_0, eS_s, getS_0, getS_s, aNil_r, aCons_r, eOp_r, eUn_r, eCall_r, eBm_r, eTup_r, eLst_r, eIf_r, eAnd_r, eOr_r, eNot_r, eIs_r, eChain_r, eSl_r, oNo_r, oSo_r, asI_r, bT_r, bV_r, bYes_r, asB_r, truth_b, truth_l, truth_t, truth_n, truth_i, bAnd_r, bOr_r, bNot_r, oAdd_i, oSub_i, oNeg_i, oLt_i, oLe_i, oGt_i, oGe_i, cInt_i, cInt_b, cLen_l, cLen_t, cList_l, cList_t, cMax2_i, cMin2_i, cAbs_i, isT_int_i, isT_bool_i, isT_bool_b, isT_int_b, isT_tuple_t, isT_list_l, oEq_i, oNe_i, oEq_b, oNe_b, oIsN_n, oNotN_n, oIsN_i, oNotN_i, oIsB_b, oNotB_b, sSeqn_r, sNext_r, sBrk_r, sCnt_r, sRetN_r, sExpr_r, sRet_r, sRetOwn_r, sIf_r, sSet_r, sOwn_r, sAsg_r, gV_r, gT_r, gsNil_r, gsCons_r, sFz_r, sAug_r, addI_r, subI_r, sSeq_r, sArgs_r, itemsOf_l, itemsOf_t, sMut_r, fApp_r, Option.bind_some, Option.map_some, List.length_cons, List.length_nil, Nat.zero_add, Nat.reduceAdd, Nat.reduceLT, Nat.reduceLeDiff, List.set_cons_zero, List.set_cons_succ, if_true, Bool.false_eq_true, if_false, Bool.not_true, Bool.not_false, decide_true, decide_false, reduceCtorEq, c1]) (by simp))]
    simp only [List.set_cons_succ, List.set_cons_zero]
    rw [seq_nx (dputS (k := "margin_left") (v := .int v6) rfl (by simp only [eK_r, eV_0, eV_s, eB_0v, eB_0b, eB_0p, eB_0o, eB_s, eP_0v, eP_0b, eP_s, eS_0, eS_s, getS_0, getS_s, aNil_r, aCons_r, eOp_r, eUn_r, eCall_r, eBm_r, eTup_r, eLst_r, eIf_r, eAnd_r, eOr_r, eNot_r, eIs_r, eChain_r, eSl_r, oNo_r, oSo_r, asI_r, bT_r, bV_r, bYes_r, asB_r, truth_b, truth_l, truth_t, truth_n, truth_i, bAnd_r, bOr_r, bNot_r, oAdd_i, oSub_i, oNeg_i, oLt_i, oLe_i, oGt_i, oGe_i, cInt_i, cInt_b, cLen_l, cLen_t, cList_l, cList_t, cMax2_i, cMin2_i, cAbs_i, isT_int_i, isT_bool_i, isT_bool_b, isT_int_b, isT_tuple_t, isT_list_l, oEq_i, oNe_i, oEq_b, oNe_b, oIsN_n, oNotN_n, oIsN_i, oNotN_i, oIsB_b, oNotB_b, sSeqn_r, sNext_r, sBrk_r, sCnt_r, sRetN_r, sExpr_r, sRet_r, sRetOwn_r, sIf_r, sSet_r, sOwn_r, sAsg_r, gV_r, gT_r, gsNil_r, gsCons_r, sFz_r, sAug_r, addI_r, subI_r, sSeq_r, sArgs_r, itemsOf_l, itemsOf_t, sMut_r, fApp_r, Option.bind_some, Option.map_some, List.length_cons, List.length_nil, Nat.zero_add, Nat.reduceAdd, Nat.reduceLT, Nat.reduceLeDiff, List.set_cons_zero, List.set_cons_succ, if_true, Bool.false_eq_true, if_false, Bool.not_true, Bool.not_false, decide_true, decide_false, reduceCtorEq, c2, c3, c4, c5, le3, p6]) rfl (s5.lt (by decide)))]
    rw [seq_nx (dputS (k := "margin_right") (v := .int v7) rfl (by simp only [eK_r, eV_0, eV_s, eB_0v, eB_0b, eB_0p, eB_0o, eB_s, eP_0v, eP_0b, eP_s, eS_0, eS_s, getS_0, getS_s, aNil_r, aCons_r, eOp_r, eUn_r, eCall_r, eBm_r, eTup_r, eLst_r, eIf_r, eAnd_r, eOr_r, eNot_r, eIs_r, eChain_r, eSl_r, oNo_r, oSo_r, asI_r, bT_r, bV_r, bYes_r, asB_r, truth_b, truth_l, truth_t, truth_n, truth_i, bAnd_r, bOr_r, bNot_r, oAdd_i, oSub_i, oNeg_i, oLt_i, oLe_i, oGt_i, oGe_i, cInt_i, cInt_b, cLen_l, cLen_t, cList_l, cList_t, cMax2_i, cMin2_i, cAbs_i, isT_int_i, isT_bool_i, isT_bool_b, isT_int_b, isT_tuple_t, isT_list_l, oEq_i, oNe_i, oEq_b, oNe_b, oIsN_n, oNotN_n, oIsN_i, oNotN_i, oIsB_b, oNotB_b, sSeqn_r, sNext_r, sBrk_r, sCnt_r, sRetN_r, sExpr_r, sRet_r, sRetOwn_r, sIf_r, sSet_r, sOwn_r, sAsg_r, gV_r, gT_r, gsNil_r, gsCons_r, sFz_r, sAug_r, addI_r, subI_r, sSeq_r, sArgs_r, itemsOf_l, itemsOf_t, sMut_r, fApp_r, Option.bind_some, Option.map_some, List.length_cons, List.length_nil, Nat.zero_add, Nat.reduceAdd, Nat.reduceLT, Nat.reduceLeDiff, List.set_cons_zero, List.set_cons_succ, if_true, Bool.false_eq_true, if_false, Bool.not_true, Bool.not_false, decide_true, decide_false, reduceCtorEq, c6, c7, c8, c9, c0, le3, p7]) rfl (s6.lt (by decide)))]
    simp only [List.set_cons_succ, List.set_cons_zero]
    rw [seq_nx (sSet_eq (d := .int O) (by simp only [eK_r, eV_0, eV_s, eB_0v, eB_0b, eB_0p, eB_0o, eB_s, eP_0v, eP_0b, eP_s, eS_0, eS_s, getS_0, getS_s, aNil_r, aCons_r, eOp_r, eUn_r, eCall_r, eBm_r, eTup_r, eLst_r, eIf_r, eAnd_r, eOr_r, eNot_r, eIs_r, eChain_r, eSl_r, oNo_r, oSo_r, asI_r, bT_r, bV_r, bYes_r, asB_r, truth_b, truth_l, truth_t, truth_n, truth_i, bAnd_r, bOr_r, bNot_r, oAdd_i, oSub_i, oNeg_i, oLt_i, oLe_i, oGt_i, oGe_i, cInt_i, cInt_b, cLen_l, cLen_t, cList_l, cList_t, cMax2_i, cMin2_i, cAbs_i, isT_int_i, isT_bool_i, isT_bool_b, isT_int_b, isT_tuple_t, isT_list_l, oEq_i, oNe_i, oEq_b, oNe_b, oIsN_n, oNotN_n, oIsN_i, oNotN_i, oIsB_b, oNotB_b, sSeqn_r, sNext_r, sBrk_r, sCnt_r, sRetN_r, sExpr_r, sRet_r, sRetOwn_r, sIf_r, sSet_r, sOwn_r, sAsg_r, gV_r, gT_r, gsNil_r, gsCons_r, sFz_r, sAug_r, addI_r, subI_r, sSeq_r, sArgs_r, itemsOf_l, itemsOf_t, sMut_r, fApp_r, Option.bind_some, Option.map_some, List.length_cons, List.length_nil, Nat.zero_add, Nat.reduceAdd, Nat.reduceLT, Nat.reduceLeDiff, List.set_cons_zero, List.set_cons_succ, if_true, Bool.false_eq_true, if_false, Bool.not_true, Bool.not_false, decide_true, decide_false, reduceCtorEq, f1]) (by simp))]
    simp only [List.set_cons_succ, List.set_cons_zero]
    rw [seq_nx (dputS (k := "padding") (v := .int pd) rfl (by simp only [eK_r, eV_0, eV_s, eB_0v, eB_0b, eB_0p, eB_0o, eB_s, eP_0v, eP_0b, eP_s, eS_0, eS_s, getS_0, getS_s, aNil_r, aCons_r, eOp_r, eUn_r, eCall_r, eBm_r, eTup_r, eLst_r, eIf_r, eAnd_r, eOr_r, eNot_r, eIs_r, eChain_r, eSl_r, oNo_r, oSo_r, asI_r, bT_r, bV_r, bYes_r, asB_r, truth_b, truth_l, truth_t, truth_n, truth_i, bAnd_r, bOr_r, bNot_r, oAdd_i, oSub_i, oNeg_i, oLt_i, oLe_i, oGt_i, oGe_i, cInt_i, cInt_b, cLen_l, cLen_t, cList_l, cList_t, cMax2_i, cMin2_i, cAbs_i, isT_int_i, isT_bool_i, isT_bool_b, isT_int_b, isT_tuple_t, isT_list_l, oEq_i, oNe_i, oEq_b, oNe_b, oIsN_n, oNotN_n, oIsN_i, oNotN_i, oIsB_b, oNotB_b, sSeqn_r, sNext_r, sBrk_r, sCnt_r, sRetN_r, sExpr_r, sRet_r, sRetOwn_r, sIf_r, sSet_r, sOwn_r, sAsg_r, gV_r, gT_r, gsNil_r, gsCons_r, sFz_r, sAug_r, addI_r, subI_r, sSeq_r, sArgs_r, itemsOf_l, itemsOf_t, sMut_r, fApp_r, Option.bind_some, Option.map_some, List.length_cons, List.length_nil, Nat.zero_add, Nat.reduceAdd, Nat.reduceLT, Nat.reduceLeDiff, List.set_cons_zero, List.set_cons_succ, if_true, Bool.false_eq_true, if_false, Bool.not_true, Bool.not_false, decide_true, decide_false, reduceCtorEq, f2, f3, f4, f5, le3, p8]) rfl (s7.lt (by decide)))]
    rw [seq_nx (dputS (k := "border") (v := .int bd) rfl (by simp only [eK_r, eV_0, eV_s, eB_0v, eB_0b, eB_0p, eB_0o, eB_s, eP_0v, eP_0b, eP_s, eS_0, eS_s, getS_0, getS_s, aNil_r, aCons_r, eOp_r, eUn_r, eCall_r, eBm_r, eTup_r, eLst_r, eIf_r, eAnd_r, eOr_r, eNot_r, eIs_r, eChain_r, eSl_r, oNo_r, oSo_r, asI_r, bT_r, bV_r, bYes_r, asB_r, truth_b, truth_l, truth_t, truth_n, truth_i, bAnd_r, bOr_r, bNot_r, oAdd_i, oSub_i, oNeg_i, oLt_i, oLe_i, oGt_i, oGe_i, cInt_i, cInt_b, cLen_l, cLen_t, cList_l, cList_t, cMax2_i, cMin2_i, cAbs_i, isT_int_i, isT_bool_i, isT_bool_b, isT_int_b, isT_tuple_t, isT_list_l, oEq_i, oNe_i, oEq_b, oNe_b, oIsN_n, oNotN_n, oIsN_i, oNotN_i, oIsB_b, oNotB_b, sSeqn_r, sNext_r, sBrk_r, sCnt_r, sRetN_r, sExpr_r, sRet_r, sRetOwn_r, sIf_r, sSet_r, sOwn_r, sAsg_r, gV_r, gT_r, gsNil_r, gsCons_r, sFz_r, sAug_r, addI_r, subI_r, sSeq_r, sArgs_r, itemsOf_l, itemsOf_t, sMut_r, fApp_r, Option.bind_some, Option.map_some, List.length_cons, List.length_nil, Nat.zero_add, Nat.reduceAdd, Nat.reduceLT, Nat.reduceLeDiff, List.set_cons_zero, List.set_cons_succ, if_true, Bool.false_eq_true, if_false, Bool.not_true, Bool.not_false, decide_true, decide_false, reduceCtorEq, f6, f7, f8, f9, f0, le3, p9]) rfl (s8.lt (by decide)))]
    rw [seq_nx (dputS (k := "margin_top") (v := .int 5) rfl rfl rfl (s9.lt (by decide)))]
    rw [seq_nx (dputS (k := "gap") (v := .int gp) rfl (by simp only [eK_r, eV_0, eV_s, eB_0v, eB_0b, eB_0p, eB_0o, eB_s, eP_0v, eP_0b, eP_s, eS_0, eS_s, getS_0, getS_s, aNil_r, aCons_r, eOp_r, eUn_r, eCall_r, eBm_r, eTup_r, eLst_r, eIf_r, eAnd_r, eOr_r, eNot_r, eIs_r, eChain_r, eSl_r, oNo_r, oSo_r, asI_r, bT_r, bV_r, bYes_r, asB_r, truth_b, truth_l, truth_t, truth_n, truth_i, bAnd_r, bOr_r, bNot_r, oAdd_i, oSub_i, oNeg_i, oLt_i, oLe_i, oGt_i, oGe_i, cInt_i, cInt_b, cLen_l, cLen_t, cList_l, cList_t, cMax2_i, cMin2_i, cAbs_i, isT_int_i, isT_bool_i, isT_bool_b, isT_int_b, isT_tuple_t, isT_list_l, oEq_i, oNe_i, oEq_b, oNe_b, oIsN_n, oNotN_n, oIsN_i, oNotN_i, oIsB_b, oNotB_b, sSeqn_r, sNext_r, sBrk_r, sCnt_r, sRetN_r, sExpr_r, sRet_r, sRetOwn_r, sIf_r, sSet_r, sOwn_r, sAsg_r, gV_r, gT_r, gsNil_r, gsCons_r, sFz_r, sAug_r, addI_r, subI_r, sSeq_r, sArgs_r, itemsOf_l, itemsOf_t, sMut_r, fApp_r, Option.bind_some, Option.map_some, List.length_cons, List.length_nil, Nat.zero_add, Nat.reduceAdd, Nat.reduceLT, Nat.reduceLeDiff, List.set_cons_zero, List.set_cons_succ, if_true, Bool.false_eq_true, if_false, Bool.not_true, Bool.not_false, decide_true, decide_false, reduceCtorEq, i1, i2]) rfl (s10.lt (by decide)))]
    rw [seq_nx (dputS (k := "columns") (v := .int (1 + cl)) rfl (by simp only [eK_r, eV_0, eV_s, eB_0v, eB_0b, eB_0p, eB_0o, eB_s, eP_0v, eP_0b, eP_s, eS_0, eS_s, getS_0, getS_s, aNil_r, aCons_r, eOp_r, eUn_r, eCall_r, eBm_r, eTup_r, eLst_r, eIf_r, eAnd_r, eOr_r, eNot_r, eIs_r, eChain_r, eSl_r, oNo_r, oSo_r, asI_r, bT_r, bV_r, bYes_r, asB_r, truth_b, truth_l, truth_t, truth_n, truth_i, bAnd_r, bOr_r, bNot_r, oAdd_i, oSub_i, oNeg_i, oLt_i, oLe_i, oGt_i, oGe_i, cInt_i, cInt_b, cLen_l, cLen_t, cList_l, cList_t, cMax2_i, cMin2_i, cAbs_i, isT_int_i, isT_bool_i, isT_bool_b, isT_int_b, isT_tuple_t, isT_list_l, oEq_i, oNe_i, oEq_b, oNe_b, oIsN_n, oNotN_n, oIsN_i, oNotN_i, oIsB_b, oNotB_b, sSeqn_r, sNext_r, sBrk_r, sCnt_r, sRetN_r, sExpr_r, sRet_r, sRetOwn_r, sIf_r, sSet_r, sOwn_r, sAsg_r, gV_r, gT_r, gsNil_r, gsCons_r, sFz_r, sAug_r, addI_r, subI_r, sSeq_r, sArgs_r, itemsOf_l, itemsOf_t, sMut_r, fApp_r, Option.bind_some, Option.map_some, List.length_cons, List.length_nil, Nat.zero_add, Nat.reduceAdd, Nat.reduceLT, Nat.reduceLeDiff, List.set_cons_zero, List.set_cons_succ, if_true, Bool.false_eq_true, if_false, Bool.not_true, Bool.not_false, decide_true, decide_false, reduceCtorEq, i3, i4]) rfl (s11.lt (by decide)))]
    rfl
  all_goals
    simp only [upG]
  · rw [if_neg (by decide +kernel), if_neg (by decide +kernel), if_neg (by decide +kernel), if_neg (by decide +kernel), if_neg (by decide +kernel), if_neg (by decide +kernel), if_neg (by decide +kernel), if_neg (by decide +kernel), if_pos trivial]
  · rw [if_neg (by decide +kernel), if_neg (by decide +kernel), if_neg (by decide +kernel), if_neg (by decide +kernel), if_neg (by decide +kernel), if_neg (by decide +kernel), if_neg (by decide +kernel), if_pos trivial]
  · rw [if_neg (by decide +kernel), if_neg (by decide +kernel), if_neg (by decide +kernel), if_neg (by decide +kernel), if_pos trivial]
  · rw [if_neg (by decide +kernel), if_neg (by decide +kernel), if_neg (by decide +kernel), if_pos trivial]
theorem frame_eq {n : Nat} {g : Str → Option PyData} {m : List (Str × PyData)} (s : Sty n g m) {pd bd : Int} (h1 : g "padding" = some (.int pd)) (h2 : g "border" = some (.int bd)) : F_frame [encS m] = some (.int (bd + pd)) := by
  refine box_rt rfl ?_
  have x1 := get_S s "padding"
  have x2 := get_S s "border"
  rw [h1] at x1
  rw [h2] at x2
  show B_frame [.bor (encS m)] = _
  unfold B_frame
  generalize encS m = d at *
  simp only [eK_r, eV_0, eV_s, eB_0v, eB_0b, eB_0p, eB_0o, eB_s, eP_0v, eP_0b, eP_s, eS_0, eS_s, getS_0, getS_s, aNil_r, aCons_r, eOp_r, eUn_r, eCall_r, eBm_r, eTup_r, eLst_r, eIf_r, eAnd_r, eOr_r, eNot_r, eIs_r, eChain_r, eSl_r, oNo_r, oSo_r, asI_r, bT_r, bV_r, bYes_r, asB_r, truth_b, truth_l, truth_t, truth_n, truth_i, bAnd_r, bOr_r, bNot_r, oAdd_i, oSub_i, oNeg_i, oLt_i, oLe_i, oGt_i, oGe_i, cInt_i, cInt_b, cLen_l, cLen_t, cList_l, cList_t, cMax2_i, cMin2_i, cAbs_i, isT_int_i, isT_bool_i, isT_bool_b, isT_int_b, isT_tuple_t, isT_list_l, oEq_i, oNe_i, oEq_b, oNe_b, oIsN_n, oNotN_n, oIsN_i, oNotN_i, oIsB_b, oNotB_b, sSeqn_r, sNext_r, sBrk_r, sCnt_r, sRetN_r, sExpr_r, sRet_r, sRetOwn_r, sIf_r, sSet_r, sOwn_r, sAsg_r, gV_r, gT_r, gsNil_r, gsCons_r, sFz_r, sAug_r, addI_r, subI_r, sSeq_r, sArgs_r, itemsOf_l, itemsOf_t, sMut_r, fApp_r, Option.bind_some, Option.map_some, List.length_cons, List.length_nil, Nat.zero_add, Nat.reduceAdd, Nat.reduceLT, Nat.reduceLeDiff, List.set_cons_zero, List.set_cons_succ, if_true, Bool.false_eq_true, if_false, Bool.not_true, Bool.not_false, decide_true, decide_false, reduceCtorEq, x1, x2]
theorem bounded_eq {n : Nat} {g : Str → Option PyData} {m : List (Str × PyData)} (s : Sty n g m) {lw mw pd bd r : Int} (h1 : g "padding" = some (.int pd)) (h2 : g "border" = some (.int bd)) (h3 : g "least_width" = some (.int lw)) (h4 : g "most_width" = some (.int mw)) : F_bounded [encS m, .int r] = some (.int (max (max (min r mw) lw) (2 * (bd + pd)))) := by
  refine box_rt rfl ?_
  have x1 := frame_eq s h1 h2
  have x3 := get_S s "least_width"
  have x4 := get_S s "most_width"
  rw [h3] at x3
  rw [h4] at x4
  have x5 : oMulS (.int 2) (.int (bd + pd)) = some (.int (2 * (bd + pd))) := oMul_l (by omega) (by omega)
  show B_bounded [.bor (encS m), .bor (.int r)] = _
  unfold B_bounded
  generalize encS m = d at *
  have x6 : ∀ i j l : Int, cMax3 [.int i, .int j, .int l] = some (.int (max (max i j) l)) := fun _ _ _ => rfl
  generalize 2 * (bd + pd) = u at *
  generalize bd + pd = w at *
  simp only [eK_r, eV_0, eV_s, eB_0v, eB_0b, eB_0p, eB_0o, eB_s, eP_0v, eP_0b, eP_s, eS_0, eS_s, getS_0, getS_s, aNil_r, aCons_r, eOp_r, eUn_r, eCall_r, eBm_r, eTup_r, eLst_r, eIf_r, eAnd_r, eOr_r, eNot_r, eIs_r, eChain_r, eSl_r, oNo_r, oSo_r, asI_r, bT_r, bV_r, bYes_r, asB_r, truth_b, truth_l, truth_t, truth_n, truth_i, bAnd_r, bOr_r, bNot_r, oAdd_i, oSub_i, oNeg_i, oLt_i, oLe_i, oGt_i, oGe_i, cInt_i, cInt_b, cLen_l, cLen_t, cList_l, cList_t, cMax2_i, cMin2_i, cAbs_i, isT_int_i, isT_bool_i, isT_bool_b, isT_int_b, isT_tuple_t, isT_list_l, oEq_i, oNe_i, oEq_b, oNe_b, oIsN_n, oNotN_n, oIsN_i, oNotN_i, oIsB_b, oNotB_b, sSeqn_r, sNext_r, sBrk_r, sCnt_r, sRetN_r, sExpr_r, sRet_r, sRetOwn_r, sIf_r, sSet_r, sOwn_r, sAsg_r, gV_r, gT_r, gsNil_r, gsCons_r, sFz_r, sAug_r, addI_r, subI_r, sSeq_r, sArgs_r, itemsOf_l, itemsOf_t, sMut_r, fApp_r, Option.bind_some, Option.map_some, List.length_cons, List.length_nil, Nat.zero_add, Nat.reduceAdd, Nat.reduceLT, Nat.reduceLeDiff, List.set_cons_zero, List.set_cons_succ, if_true, Bool.false_eq_true, if_false, Bool.not_true, Bool.not_false, decide_true, decide_false, reduceCtorEq, x1, x3, x4, x5, x6]
theorem pick_room (lw mw fb N : Int) (hN : 0 ≤ N) : ∃ v : Int, oIx (.list [.int lw, .int mw, .int fb, .int 0]) (.int (N / 4 % 4)) = some (.int v) := by
  obtain ⟨v, p, _⟩ := pick4 (n := N / 4) (d1 := lw) (d2 := mw) (d3 := fb) (d4 := 0) (by omega)
  exact ⟨v, p⟩
abbrev R21 (ns : List Int) (st : PyData) (N : Int) (ar : PyData) (s4 s5 s6 s7 s8 : Slot) : Rho := [.scr (.list (ns.map .int)), .val st, .val (.int N), .val ar, s4, s5, s6, s7, s8]
theorem law_end (ns : List Int) (d ar : PyData) (N lw mw pd bd r : Int) (t6 : Slot) (hlw : 0 ≤ lw) (hpd : 0 ≤ pd) (hbd : 0 ≤ bd)
    (x1 : oDGet d (.str "padding") = some (.int pd)) (x2 : oDGet d (.str "border") = some (.int bd)) (x3 : oDGet d (.str "least_width") = some (.int lw)) (x4 : oDGet d (.str "most_width") = some (.int mw))
    (fr : F_frame [d] = some (.int (bd + pd))) (bo : ∀ r, F_bounded [d, .int r] = some (.int (max (max (min r mw) lw) (2 * (bd + pd))))) (e1 : oDEq true d d = some (.bool false)) (e2 : oDEq false d d = some (.bool true)) :
    (sSeqn (sSet 7 (eCall F_bounded (aCons (eB 5) (aCons (eB 4) aNil))))
  (sSeqn (sSet 8 (eCall F_frame (aCons (eB 5) aNil)))
  (sSeqn (sIf (bOr (bNot (bV (eCall F__law_is_integer (aCons (eB 7) aNil)))) (bOr (bNot (bV (eCall F__law_is_integer (aCons (eB 8) aNil)))) (bT (eOp (oDEq true) (eB 5) (eB 1)))))
    (sRet (eK (.bool false)))
    sNext)
  (sSeqn (sIf (bOr (bT (eOp oNe (eB 8) (eOp oAdd (eOp oDGet (eB 1) (eK (.str "border"))) (eOp oDGet (eB 1) (eK (.str "padding")))))) (bOr (bT (eOp oLt (eB 7) (eOp oDGet (eB 1) (eK (.str "least_width"))))) (bT (eOp oLt (eB 7) (eOp oMulS (eK (.int 2)) (eB 8))))))
    (sRet (eK (.bool false)))
    sNext)
  (sSeqn (sIf (bAnd (bT (eOp oGt (eB 7) (eOp oDGet (eB 1) (eK (.str "most_width"))))) (bAnd (bT (eOp oNe (eB 7) (eOp oDGet (eB 1) (eK (.str "least_width"))))) (bT (eOp oNe (eB 7) (eOp oMulS (eK (.int 2)) (eB 8))))))
    (sRet (eK (.bool false)))
    sNext)
  (sSeqn (sIf (bAnd (bT (eOp oGt (eB 7) (eB 4))) (bAnd (bT (eOp oNe (eB 7) (eOp oDGet (eB 1) (eK (.str "least_width"))))) (bT (eOp oNe (eB 7) (eOp oMulS (eK (.int 2)) (eB 8))))))
    (sRet (eK (.bool false)))
    sNext)
  (sSeqn (sIf (bAnd (bT (eOp oLt (eB 7) (eB 4))) (bT (eOp oLt (eB 7) (eOp oDGet (eB 1) (eK (.str "most_width"))))))
    (sRet (eK (.bool false)))
    sNext)
  (sRet (eAnd (eOp oEq (eCall F_bounded (aCons (eB 5) (aCons (eB 7) aNil))) (eB 7)) (eOp (oDEq false) (eB 5) (eB 1))))))))))) (R21 ns d N ar (.val (.int r)) (.own d) t6 .un .un) = some (.rt (.bool true)) := by
  have b1 := bo r
  have b2 := bo (max (max (min r mw) lw) (2 * (bd + pd)))
  have hz : max (max (min (max (max (min r mw) lw) (2 * (bd + pd))) mw) lw) (2 * (bd + pd)) = max (max (min r mw) lw) (2 * (bd + pd)) := by omega
  rw [hz] at b2
  have m2 : oMulS (.int 2) (.int (bd + pd)) = some (.int (2 * (bd + pd))) := oMul_l (by omega) (by omega)
  have i1 := is_integer_i (max (max (min r mw) lw) (2 * (bd + pd)))
  have i2 := is_integer_i (bd + pd)
  generalize hT : max (max (min r mw) lw) (2 * (bd + pd)) = T at *
  generalize hF : bd + pd = F at *
  have c1 : (T < lw) = False := by simp; omega
  have c2 : (T < 2 * F) = False := by simp; omega
  rw [seq_nx (ρ' := R21 ns d N ar (.val (.int r)) (.own d) t6 (.val (.int T)) .un) (by simp only [eK_r, eV_0, eV_s, eB_0v, eB_0b, eB_0p, eB_0o, eB_s, eP_0v, eP_0b, eP_s, eS_0, eS_s, getS_0, getS_s, aNil_r, aCons_r, eOp_r, eUn_r, eCall_r, eBm_r, eTup_r, eLst_r, eIf_r, eAnd_r, eOr_r, eNot_r, eIs_r, eChain_r, eSl_r, oNo_r, oSo_r, asI_r, bT_r, bV_r, bYes_r, asB_r, truth_b, truth_l, truth_t, truth_n, truth_i, bAnd_r, bOr_r, bNot_r, oAdd_i, oSub_i, oNeg_i, oLt_i, oLe_i, oGt_i, oGe_i, cInt_i, cInt_b, cLen_l, cLen_t, cList_l, cList_t, cMax2_i, cMin2_i, cAbs_i, isT_int_i, isT_bool_i, isT_bool_b, isT_int_b, isT_tuple_t, isT_list_l, oEq_i, oNe_i, oEq_b, oNe_b, oIsN_n, oNotN_n, oIsN_i, oNotN_i, oIsB_b, oNotB_b, sSeqn_r, sNext_r, sBrk_r, sCnt_r, sRetN_r, sExpr_r, sRet_r, sRetOwn_r, sIf_r, sSet_r, sOwn_r, sAsg_r, gV_r, gT_r, gsNil_r, gsCons_r, sFz_r, sAug_r, addI_r, subI_r, sSeq_r, sArgs_r, itemsOf_l, itemsOf_t, sMut_r, fApp_r, Option.bind_some, Option.map_some, List.length_cons, List.length_nil, Nat.zero_add, Nat.reduceAdd, Nat.reduceLT, Nat.reduceLeDiff, List.set_cons_zero, List.set_cons_succ, if_true, Bool.false_eq_true, if_false, Bool.not_true, Bool.not_false, decide_true, decide_false, reduceCtorEq, b1])]
  rw [seq_nx (ρ' := R21 ns d N ar (.val (.int r)) (.own d) t6 (.val (.int T)) (.val (.int F))) (by simp only [eK_r, eV_0, eV_s, eB_0v, eB_0b, eB_0p, eB_0o, eB_s, eP_0v, eP_0b, eP_s, eS_0, eS_s, getS_0, getS_s, aNil_r, aCons_r, eOp_r, eUn_r, eCall_r, eBm_r, eTup_r, eLst_r, eIf_r, eAnd_r, eOr_r, eNot_r, eIs_r, eChain_r, eSl_r, oNo_r, oSo_r, asI_r, bT_r, bV_r, bYes_r, asB_r, truth_b, truth_l, truth_t, truth_n, truth_i, bAnd_r, bOr_r, bNot_r, oAdd_i, oSub_i, oNeg_i, oLt_i, oLe_i, oGt_i, oGe_i, cInt_i, cInt_b, cLen_l, cLen_t, cList_l, cList_t, cMax2_i, cMin2_i, cAbs_i, isT_int_i, isT_bool_i, isT_bool_b, isT_int_b, isT_tuple_t, isT_list_l, oEq_i, oNe_i, oEq_b, oNe_b, oIsN_n, oNotN_n, oIsN_i, oNotN_i, oIsB_b, oNotB_b, sSeqn_r, sNext_r, sBrk_r, sCnt_r, sRetN_r, sExpr_r, sRet_r, sRetOwn_r, sIf_r, sSet_r, sOwn_r, sAsg_r, gV_r, gT_r, gsNil_r, gsCons_r, sFz_r, sAug_r, addI_r, subI_r, sSeq_r, sArgs_r, itemsOf_l, itemsOf_t, sMut_r, fApp_r, Option.bind_some, Option.map_some, List.length_cons, List.length_nil, Nat.zero_add, Nat.reduceAdd, Nat.reduceLT, Nat.reduceLeDiff, List.set_cons_zero, List.set_cons_succ, if_true, Bool.false_eq_true, if_false, Bool.not_true, Bool.not_false, decide_true, decide_false, reduceCtorEq, fr])]
  rw [seq_nx (ρ' := R21 ns d N ar (.val (.int r)) (.own d) t6 (.val (.int T)) (.val (.int F))) (by simp only [eK_r, eV_0, eV_s, eB_0v, eB_0b, eB_0p, eB_0o, eB_s, eP_0v, eP_0b, eP_s, eS_0, eS_s, getS_0, getS_s, aNil_r, aCons_r, eOp_r, eUn_r, eCall_r, eBm_r, eTup_r, eLst_r, eIf_r, eAnd_r, eOr_r, eNot_r, eIs_r, eChain_r, eSl_r, oNo_r, oSo_r, asI_r, bT_r, bV_r, bYes_r, asB_r, truth_b, truth_l, truth_t, truth_n, truth_i, bAnd_r, bOr_r, bNot_r, oAdd_i, oSub_i, oNeg_i, oLt_i, oLe_i, oGt_i, oGe_i, cInt_i, cInt_b, cLen_l, cLen_t, cList_l, cList_t, cMax2_i, cMin2_i, cAbs_i, isT_int_i, isT_bool_i, isT_bool_b, isT_int_b, isT_tuple_t, isT_list_l, oEq_i, oNe_i, oEq_b, oNe_b, oIsN_n, oNotN_n, oIsN_i, oNotN_i, oIsB_b, oNotB_b, sSeqn_r, sNext_r, sBrk_r, sCnt_r, sRetN_r, sExpr_r, sRet_r, sRetOwn_r, sIf_r, sSet_r, sOwn_r, sAsg_r, gV_r, gT_r, gsNil_r, gsCons_r, sFz_r, sAug_r, addI_r, subI_r, sSeq_r, sArgs_r, itemsOf_l, itemsOf_t, sMut_r, fApp_r, Option.bind_some, Option.map_some, List.length_cons, List.length_nil, Nat.zero_add, Nat.reduceAdd, Nat.reduceLT, Nat.reduceLeDiff, List.set_cons_zero, List.set_cons_succ, if_true, Bool.false_eq_true, if_false, Bool.not_true, Bool.not_false, decide_true, decide_false, reduceCtorEq, i1, i2, e1])]
  rw [seq_nx (ρ' := R21 ns d N ar (.val (.int r)) (.own d) t6 (.val (.int T)) (.val (.int F))) (by simp only [eK_r, eV_0, eV_s, eB_0v, eB_0b, eB_0p, eB_0o, eB_s, eP_0v, eP_0b, eP_s, eS_0, eS_s, getS_0, getS_s, aNil_r, aCons_r, eOp_r, eUn_r, eCall_r, eBm_r, eTup_r, eLst_r, eIf_r, eAnd_r, eOr_r, eNot_r, eIs_r, eChain_r, eSl_r, oNo_r, oSo_r, asI_r, bT_r, bV_r, bYes_r, asB_r, truth_b, truth_l, truth_t, truth_n, truth_i, bAnd_r, bOr_r, bNot_r, oAdd_i, oSub_i, oNeg_i, oLt_i, oLe_i, oGt_i, oGe_i, cInt_i, cInt_b, cLen_l, cLen_t, cList_l, cList_t, cMax2_i, cMin2_i, cAbs_i, isT_int_i, isT_bool_i, isT_bool_b, isT_int_b, isT_tuple_t, isT_list_l, oEq_i, oNe_i, oEq_b, oNe_b, oIsN_n, oNotN_n, oIsN_i, oNotN_i, oIsB_b, oNotB_b, sSeqn_r, sNext_r, sBrk_r, sCnt_r, sRetN_r, sExpr_r, sRet_r, sRetOwn_r, sIf_r, sSet_r, sOwn_r, sAsg_r, gV_r, gT_r, gsNil_r, gsCons_r, sFz_r, sAug_r, addI_r, subI_r, sSeq_r, sArgs_r, itemsOf_l, itemsOf_t, sMut_r, fApp_r, Option.bind_some, Option.map_some, List.length_cons, List.length_nil, Nat.zero_add, Nat.reduceAdd, Nat.reduceLT, Nat.reduceLeDiff, List.set_cons_zero, List.set_cons_succ, if_true, Bool.false_eq_true, if_false, Bool.not_true, Bool.not_false, decide_true, decide_false, reduceCtorEq, x1, x2, x3, hF, m2, c1, c2])]
  rw [seq_nx (ρ' := R21 ns d N ar (.val (.int r)) (.own d) t6 (.val (.int T)) (.val (.int F))) (by
    by_cases q1 : mw < T
    · by_cases q2 : T = lw
      · simp only [eK_r, eV_0, eV_s, eB_0v, eB_0b, eB_0p, eB_0o, eB_s, eP_0v, eP_0b, eP_s, eS_0, eS_s, getS_0, getS_s, aNil_r, aCons_r, eOp_r, eUn_r, eCall_r, eBm_r, eTup_r, eLst_r, eIf_r, eAnd_r, eOr_r, eNot_r, eIs_r, eChain_r, eSl_r, oNo_r, oSo_r, asI_r, bT_r, bV_r, bYes_r, asB_r, truth_b, truth_l, truth_t, truth_n, truth_i, bAnd_r, bOr_r, bNot_r, oAdd_i, oSub_i, oNeg_i, oLt_i, oLe_i, oGt_i, oGe_i, cInt_i, cInt_b, cLen_l, cLen_t, cList_l, cList_t, cMax2_i, cMin2_i, cAbs_i, isT_int_i, isT_bool_i, isT_bool_b, isT_int_b, isT_tuple_t, isT_list_l, oEq_i, oNe_i, oEq_b, oNe_b, oIsN_n, oNotN_n, oIsN_i, oNotN_i, oIsB_b, oNotB_b, sSeqn_r, sNext_r, sBrk_r, sCnt_r, sRetN_r, sExpr_r, sRet_r, sRetOwn_r, sIf_r, sSet_r, sOwn_r, sAsg_r, gV_r, gT_r, gsNil_r, gsCons_r, sFz_r, sAug_r, addI_r, subI_r, sSeq_r, sArgs_r, itemsOf_l, itemsOf_t, sMut_r, fApp_r, Option.bind_some, Option.map_some, List.length_cons, List.length_nil, Nat.zero_add, Nat.reduceAdd, Nat.reduceLT, Nat.reduceLeDiff, List.set_cons_zero, List.set_cons_succ, if_true, Bool.false_eq_true, if_false, Bool.not_true, Bool.not_false, decide_true, decide_false, reduceCtorEq, x3, x4, q1, q2]
        simp
      · have q3 : T = 2 * F := by omega
        simp only [eK_r, eV_0, eV_s, eB_0v, eB_0b, eB_0p, eB_0o, eB_s, eP_0v, eP_0b, eP_s, eS_0, eS_s, getS_0, getS_s, aNil_r, aCons_r, eOp_r, eUn_r, eCall_r, eBm_r, eTup_r, eLst_r, eIf_r, eAnd_r, eOr_r, eNot_r, eIs_r, eChain_r, eSl_r, oNo_r, oSo_r, asI_r, bT_r, bV_r, bYes_r, asB_r, truth_b, truth_l, truth_t, truth_n, truth_i, bAnd_r, bOr_r, bNot_r, oAdd_i, oSub_i, oNeg_i, oLt_i, oLe_i, oGt_i, oGe_i, cInt_i, cInt_b, cLen_l, cLen_t, cList_l, cList_t, cMax2_i, cMin2_i, cAbs_i, isT_int_i, isT_bool_i, isT_bool_b, isT_int_b, isT_tuple_t, isT_list_l, oEq_i, oNe_i, oEq_b, oNe_b, oIsN_n, oNotN_n, oIsN_i, oNotN_i, oIsB_b, oNotB_b, sSeqn_r, sNext_r, sBrk_r, sCnt_r, sRetN_r, sExpr_r, sRet_r, sRetOwn_r, sIf_r, sSet_r, sOwn_r, sAsg_r, gV_r, gT_r, gsNil_r, gsCons_r, sFz_r, sAug_r, addI_r, subI_r, sSeq_r, sArgs_r, itemsOf_l, itemsOf_t, sMut_r, fApp_r, Option.bind_some, Option.map_some, List.length_cons, List.length_nil, Nat.zero_add, Nat.reduceAdd, Nat.reduceLT, Nat.reduceLeDiff, List.set_cons_zero, List.set_cons_succ, if_true, Bool.false_eq_true, if_false, Bool.not_true, Bool.not_false, decide_true, decide_false, reduceCtorEq, x3, x4, m2, q1, q2]
        simp [q3]
    · simp only [eK_r, eV_0, eV_s, eB_0v, eB_0b, eB_0p, eB_0o, eB_s, eP_0v, eP_0b, eP_s, eS_0, eS_s, getS_0, getS_s, aNil_r, aCons_r, eOp_r, eUn_r, eCall_r, eBm_r, eTup_r, eLst_r, eIf_r, eAnd_r, eOr_r, eNot_r, eIs_r, eChain_r, eSl_r, oNo_r, oSo_r, asI_r, bT_r, bV_r, bYes_r, asB_r, truth_b, truth_l, truth_t, truth_n, truth_i, bAnd_r, bOr_r, bNot_r, oAdd_i, oSub_i, oNeg_i, oLt_i, oLe_i, oGt_i, oGe_i, cInt_i, cInt_b, cLen_l, cLen_t, cList_l, cList_t, cMax2_i, cMin2_i, cAbs_i, isT_int_i, isT_bool_i, isT_bool_b, isT_int_b, isT_tuple_t, isT_list_l, oEq_i, oNe_i, oEq_b, oNe_b, oIsN_n, oNotN_n, oIsN_i, oNotN_i, oIsB_b, oNotB_b, sSeqn_r, sNext_r, sBrk_r, sCnt_r, sRetN_r, sExpr_r, sRet_r, sRetOwn_r, sIf_r, sSet_r, sOwn_r, sAsg_r, gV_r, gT_r, gsNil_r, gsCons_r, sFz_r, sAug_r, addI_r, subI_r, sSeq_r, sArgs_r, itemsOf_l, itemsOf_t, sMut_r, fApp_r, Option.bind_some, Option.map_some, List.length_cons, List.length_nil, Nat.zero_add, Nat.reduceAdd, Nat.reduceLT, Nat.reduceLeDiff, List.set_cons_zero, List.set_cons_succ, if_true, Bool.false_eq_true, if_false, Bool.not_true, Bool.not_false, decide_true, decide_false, reduceCtorEq, x4, q1])]
  rw [seq_nx (ρ' := R21 ns d N ar (.val (.int r)) (.own d) t6 (.val (.int T)) (.val (.int F))) (by
    by_cases q1 : r < T
    · by_cases q2 : T = lw
      · simp only [eK_r, eV_0, eV_s, eB_0v, eB_0b, eB_0p, eB_0o, eB_s, eP_0v, eP_0b, eP_s, eS_0, eS_s, getS_0, getS_s, aNil_r, aCons_r, eOp_r, eUn_r, eCall_r, eBm_r, eTup_r, eLst_r, eIf_r, eAnd_r, eOr_r, eNot_r, eIs_r, eChain_r, eSl_r, oNo_r, oSo_r, asI_r, bT_r, bV_r, bYes_r, asB_r, truth_b, truth_l, truth_t, truth_n, truth_i, bAnd_r, bOr_r, bNot_r, oAdd_i, oSub_i, oNeg_i, oLt_i, oLe_i, oGt_i, oGe_i, cInt_i, cInt_b, cLen_l, cLen_t, cList_l, cList_t, cMax2_i, cMin2_i, cAbs_i, isT_int_i, isT_bool_i, isT_bool_b, isT_int_b, isT_tuple_t, isT_list_l, oEq_i, oNe_i, oEq_b, oNe_b, oIsN_n, oNotN_n, oIsN_i, oNotN_i, oIsB_b, oNotB_b, sSeqn_r, sNext_r, sBrk_r, sCnt_r, sRetN_r, sExpr_r, sRet_r, sRetOwn_r, sIf_r, sSet_r, sOwn_r, sAsg_r, gV_r, gT_r, gsNil_r, gsCons_r, sFz_r, sAug_r, addI_r, subI_r, sSeq_r, sArgs_r, itemsOf_l, itemsOf_t, sMut_r, fApp_r, Option.bind_some, Option.map_some, List.length_cons, List.length_nil, Nat.zero_add, Nat.reduceAdd, Nat.reduceLT, Nat.reduceLeDiff, List.set_cons_zero, List.set_cons_succ, if_true, Bool.false_eq_true, if_false, Bool.not_true, Bool.not_false, decide_true, decide_false, reduceCtorEq, x3, x4, q1, q2]
        simp
      · have q3 : T = 2 * F := by omega
        simp only [eK_r, eV_0, eV_s, eB_0v, eB_0b, eB_0p, eB_0o, eB_s, eP_0v, eP_0b, eP_s, eS_0, eS_s, getS_0, getS_s, aNil_r, aCons_r, eOp_r, eUn_r, eCall_r, eBm_r, eTup_r, eLst_r, eIf_r, eAnd_r, eOr_r, eNot_r, eIs_r, eChain_r, eSl_r, oNo_r, oSo_r, asI_r, bT_r, bV_r, bYes_r, asB_r, truth_b, truth_l, truth_t, truth_n, truth_i, bAnd_r, bOr_r, bNot_r, oAdd_i, oSub_i, oNeg_i, oLt_i, oLe_i, oGt_i, oGe_i, cInt_i, cInt_b, cLen_l, cLen_t, cList_l, cList_t, cMax2_i, cMin2_i, cAbs_i, isT_int_i, isT_bool_i, isT_bool_b, isT_int_b, isT_tuple_t, isT_list_l, oEq_i, oNe_i, oEq_b, oNe_b, oIsN_n, oNotN_n, oIsN_i, oNotN_i, oIsB_b, oNotB_b, sSeqn_r, sNext_r, sBrk_r, sCnt_r, sRetN_r, sExpr_r, sRet_r, sRetOwn_r, sIf_r, sSet_r, sOwn_r, sAsg_r, gV_r, gT_r, gsNil_r, gsCons_r, sFz_r, sAug_r, addI_r, subI_r, sSeq_r, sArgs_r, itemsOf_l, itemsOf_t, sMut_r, fApp_r, Option.bind_some, Option.map_some, List.length_cons, List.length_nil, Nat.zero_add, Nat.reduceAdd, Nat.reduceLT, Nat.reduceLeDiff, List.set_cons_zero, List.set_cons_succ, if_true, Bool.false_eq_true, if_false, Bool.not_true, Bool.not_false, decide_true, decide_false, reduceCtorEq, x3, x4, m2, q1, q2]
        simp [q3]
    · simp only [eK_r, eV_0, eV_s, eB_0v, eB_0b, eB_0p, eB_0o, eB_s, eP_0v, eP_0b, eP_s, eS_0, eS_s, getS_0, getS_s, aNil_r, aCons_r, eOp_r, eUn_r, eCall_r, eBm_r, eTup_r, eLst_r, eIf_r, eAnd_r, eOr_r, eNot_r, eIs_r, eChain_r, eSl_r, oNo_r, oSo_r, asI_r, bT_r, bV_r, bYes_r, asB_r, truth_b, truth_l, truth_t, truth_n, truth_i, bAnd_r, bOr_r, bNot_r, oAdd_i, oSub_i, oNeg_i, oLt_i, oLe_i, oGt_i, oGe_i, cInt_i, cInt_b, cLen_l, cLen_t, cList_l, cList_t, cMax2_i, cMin2_i, cAbs_i, isT_int_i, isT_bool_i, isT_bool_b, isT_int_b, isT_tuple_t, isT_list_l, oEq_i, oNe_i, oEq_b, oNe_b, oIsN_n, oNotN_n, oIsN_i, oNotN_i, oIsB_b, oNotB_b, sSeqn_r, sNext_r, sBrk_r, sCnt_r, sRetN_r, sExpr_r, sRet_r, sRetOwn_r, sIf_r, sSet_r, sOwn_r, sAsg_r, gV_r, gT_r, gsNil_r, gsCons_r, sFz_r, sAug_r, addI_r, subI_r, sSeq_r, sArgs_r, itemsOf_l, itemsOf_t, sMut_r, fApp_r, Option.bind_some, Option.map_some, List.length_cons, List.length_nil, Nat.zero_add, Nat.reduceAdd, Nat.reduceLT, Nat.reduceLeDiff, List.set_cons_zero, List.set_cons_succ, if_true, Bool.false_eq_true, if_false, Bool.not_true, Bool.not_false, decide_true, decide_false, reduceCtorEq, x4, q1])]
  rw [seq_nx (ρ' := R21 ns d N ar (.val (.int r)) (.own d) t6 (.val (.int T)) (.val (.int F))) (by
    by_cases q1 : T < r
    · have q2 : ¬ T < mw := by omega
      simp only [eK_r, eV_0, eV_s, eB_0v, eB_0b, eB_0p, eB_0o, eB_s, eP_0v, eP_0b, eP_s, eS_0, eS_s, getS_0, getS_s, aNil_r, aCons_r, eOp_r, eUn_r, eCall_r, eBm_r, eTup_r, eLst_r, eIf_r, eAnd_r, eOr_r, eNot_r, eIs_r, eChain_r, eSl_r, oNo_r, oSo_r, asI_r, bT_r, bV_r, bYes_r, asB_r, truth_b, truth_l, truth_t, truth_n, truth_i, bAnd_r, bOr_r, bNot_r, oAdd_i, oSub_i, oNeg_i, oLt_i, oLe_i, oGt_i, oGe_i, cInt_i, cInt_b, cLen_l, cLen_t, cList_l, cList_t, cMax2_i, cMin2_i, cAbs_i, isT_int_i, isT_bool_i, isT_bool_b, isT_int_b, isT_tuple_t, isT_list_l, oEq_i, oNe_i, oEq_b, oNe_b, oIsN_n, oNotN_n, oIsN_i, oNotN_i, oIsB_b, oNotB_b, sSeqn_r, sNext_r, sBrk_r, sCnt_r, sRetN_r, sExpr_r, sRet_r, sRetOwn_r, sIf_r, sSet_r, sOwn_r, sAsg_r, gV_r, gT_r, gsNil_r, gsCons_r, sFz_r, sAug_r, addI_r, subI_r, sSeq_r, sArgs_r, itemsOf_l, itemsOf_t, sMut_r, fApp_r, Option.bind_some, Option.map_some, List.length_cons, List.length_nil, Nat.zero_add, Nat.reduceAdd, Nat.reduceLT, Nat.reduceLeDiff, List.set_cons_zero, List.set_cons_succ, if_true, Bool.false_eq_true, if_false, Bool.not_true, Bool.not_false, decide_true, decide_false, reduceCtorEq, x4, q1, q2]
    · simp only [eK_r, eV_0, eV_s, eB_0v, eB_0b, eB_0p, eB_0o, eB_s, eP_0v, eP_0b, eP_s, eS_0, eS_s, getS_0, getS_s, aNil_r, aCons_r, eOp_r, eUn_r, eCall_r, eBm_r, eTup_r, eLst_r, eIf_r, eAnd_r, eOr_r, eNot_r, eIs_r, eChain_r, eSl_r, oNo_r, oSo_r, asI_r, bT_r, bV_r, bYes_r, asB_r, truth_b, truth_l, truth_t, truth_n, truth_i, bAnd_r, bOr_r, bNot_r, oAdd_i, oSub_i, oNeg_i, oLt_i, oLe_i, oGt_i, oGe_i, cInt_i, cInt_b, cLen_l, cLen_t, cList_l, cList_t, cMax2_i, cMin2_i, cAbs_i, isT_int_i, isT_bool_i, isT_bool_b, isT_int_b, isT_tuple_t, isT_list_l, oEq_i, oNe_i, oEq_b, oNe_b, oIsN_n, oNotN_n, oIsN_i, oNotN_i, oIsB_b, oNotB_b, sSeqn_r, sNext_r, sBrk_r, sCnt_r, sRetN_r, sExpr_r, sRet_r, sRetOwn_r, sIf_r, sSet_r, sOwn_r, sAsg_r, gV_r, gT_r, gsNil_r, gsCons_r, sFz_r, sAug_r, addI_r, subI_r, sSeq_r, sArgs_r, itemsOf_l, itemsOf_t, sMut_r, fApp_r, Option.bind_some, Option.map_some, List.length_cons, List.length_nil, Nat.zero_add, Nat.reduceAdd, Nat.reduceLT, Nat.reduceLeDiff, List.set_cons_zero, List.set_cons_succ, if_true, Bool.false_eq_true, if_false, Bool.not_true, Bool.not_false, decide_true, decide_false, reduceCtorEq, q1])]
  simp only [eK_r, eV_0, eV_s, eB_0v, eB_0b, eB_0p, eB_0o, eB_s, eP_0v, eP_0b, eP_s, eS_0, eS_s, getS_0, getS_s, aNil_r, aCons_r, eOp_r, eUn_r, eCall_r, eBm_r, eTup_r, eLst_r, eIf_r, eAnd_r, eOr_r, eNot_r, eIs_r, eChain_r, eSl_r, oNo_r, oSo_r, asI_r, bT_r, bV_r, bYes_r, asB_r, truth_b, truth_l, truth_t, truth_n, truth_i, bAnd_r, bOr_r, bNot_r, oAdd_i, oSub_i, oNeg_i, oLt_i, oLe_i, oGt_i, oGe_i, cInt_i, cInt_b, cLen_l, cLen_t, cList_l, cList_t, cMax2_i, cMin2_i, cAbs_i, isT_int_i, isT_bool_i, isT_bool_b, isT_int_b, isT_tuple_t, isT_list_l, oEq_i, oNe_i, oEq_b, oNe_b, oIsN_n, oNotN_n, oIsN_i, oNotN_i, oIsB_b, oNotB_b, sSeqn_r, sNext_r, sBrk_r, sCnt_r, sRetN_r, sExpr_r, sRet_r, sRetOwn_r, sIf_r, sSet_r, sOwn_r, sAsg_r, gV_r, gT_r, gsNil_r, gsCons_r, sFz_r, sAug_r, addI_r, subI_r, sSeq_r, sArgs_r, itemsOf_l, itemsOf_t, sMut_r, fApp_r, Option.bind_some, Option.map_some, List.length_cons, List.length_nil, Nat.zero_add, Nat.reduceAdd, Nat.reduceLT, Nat.reduceLeDiff, List.set_cons_zero, List.set_cons_succ, if_true, Bool.false_eq_true, if_false, Bool.not_true, Bool.not_false, decide_true, decide_false, reduceCtorEq, b2, e2]
theorem law_true (ns : List Int) (hl : ns.length ≤ 63) (hb : ∀ z ∈ ns, Builtin.Int.intBits z ≤ 1048576) : F_law [.list (ns.map .int)] = some (.bool true) := by
  refine box_rt rfl ?_
  have c0 : F__law_cell [.list (ns.map .int), .int 0] = _ := cell_eq ns 0
  have c1 : F__law_cell [.list (ns.map .int), .int 1] = _ := cell_eq ns 1
  have hn := srcV_b (cellV ns 0)
  have hx := srcV_b (cellV ns 1)
  have s0 := source_eq (cellV ns 0)
  have s1 := source_eq (cellV ns 1)
  generalize srcV (cellV ns 0) = M at *
  generalize srcV (cellV ns 1) = N at *
  obtain ⟨m, lw, mw, pd, bd, eb, ⟨g, st, g1, g2, g3, g4⟩, hlw, hmw, hpd, hbd⟩ := box_ex M 2 hn
  have x1 := get_S st "padding"
  have x2 := get_S st "border"
  have x3 := get_S st "least_width"
  have x4 := get_S st "most_width"
  rw [g3] at x1
  rw [g4] at x2
  rw [g1] at x3
  rw [g2] at x4
  have le4 : 4 ≤ sizeLine := size_le (by decide)
  have y1 : oMulS (.int 2) (.int bd) = some (.int (2 * bd)) := oMul_l (by omega) (by omega)
  have y2 : oMulS (.int 2) (.int pd) = some (.int (2 * pd)) := oMul_l (by omega) (by omega)
  have q1 : oFdiv (.int N) (.int 4) = some (.int (N / 4)) := oFdiv_i (by omega) (by omega)
  have q2 : oMod (.int (N / 4)) (.int 4) = some (.int (N / 4 % 4)) := oMod_i (by omega)
  have q3 : oFdiv (.int N) (.int 16) = some (.int (N / 16)) := oFdiv_i (by omega) (by omega)
  have q4 : oMod (.int (N / 16)) (.int 3) = some (.int (N / 16 % 3)) := oMod_i (by omega)
  have q5 : oMod (.int N) (.int 4) = some (.int (N % 4)) := oMod_i (by omega)
  have q6 : oMod (.int (N / 16)) (.int 4001) = some (.int (N / 16 % 4001)) := oMod_i (by omega)
  have q7 : oMod (.int N) (.int 16) = some (.int (N % 16)) := oMod_i (by omega)
  have q8 : oMod (.int (N / 16)) (.int 100000000) = some (.int (N / 16 % 100000000)) := oMod_i (by omega)
  obtain ⟨r0, p0⟩ := pick_room lw mw (2 * bd + 2 * pd) N hx
  have hS := fun r => bounded_eq (r := r) st g3 g4 g1 g2
  have hF := frame_eq st g3 g4
  have he := eq_S st.nd st.ok
  have hk := keys_S m
  have hcp := copyGo (g := gV 6) (b := L_law_1) st.nd (by have := st.len; omega)
  have hdg : ∀ k v, lk m k = some v → oDGet (encS m) (.str k) = some v := fun k v h => by
    unfold oDGet
    rw [dGet_S, h]; rfl
  generalize hd : encS m = d at *
  let ar : PyData := .list [.int lw, .int mw, .int (2 * bd + 2 * pd), .int 0]
  have p0 : oIx ar (.int (N / 4 % 4)) = some (.int r0) := p0
  obtain ⟨r1, e1⟩ : ∃ r1 : Int, sIf (bT (eOp oEq (eOp oMod (eCall cInt (aCons (eB 2) aNil)) (eK (.int 4))) (eK (.int 0)))) (sSet 4 (eOp oSub (eOp oMod (eCall cInt (aCons (eOp oFdiv (eB 2) (eK (.int 16))) aNil)) (eK (.int 4001))) (eK (.int 2000)))) sNext (R21 ns d N ar (.val (.int (r0 + N / 16 % 3 - 1))) .un .un .un .un) = some (.nx (R21 ns d N ar (.val (.int r1)) .un .un .un .un)) := by
    by_cases c : N % 4 = 0
    · exact ⟨N / 16 % 4001 - 2000, by simp only [eK_r, eV_0, eV_s, eB_0v, eB_0b, eB_0p, eB_0o, eB_s, eP_0v, eP_0b, eP_s, eS_0, eS_s, getS_0, getS_s, aNil_r, aCons_r, eOp_r, eUn_r, eCall_r, eBm_r, eTup_r, eLst_r, eIf_r, eAnd_r, eOr_r, eNot_r, eIs_r, eChain_r, eSl_r, oNo_r, oSo_r, asI_r, bT_r, bV_r, bYes_r, asB_r, truth_b, truth_l, truth_t, truth_n, truth_i, bAnd_r, bOr_r, bNot_r, oAdd_i, oSub_i, oNeg_i, oLt_i, oLe_i, oGt_i, oGe_i, cInt_i, cInt_b, cLen_l, cLen_t, cList_l, cList_t, cMax2_i, cMin2_i, cAbs_i, isT_int_i, isT_bool_i, isT_bool_b, isT_int_b, isT_tuple_t, isT_list_l, oEq_i, oNe_i, oEq_b, oNe_b, oIsN_n, oNotN_n, oIsN_i, oNotN_i, oIsB_b, oNotB_b, sSeqn_r, sNext_r, sBrk_r, sCnt_r, sRetN_r, sExpr_r, sRet_r, sRetOwn_r, sIf_r, sSet_r, sOwn_r, sAsg_r, gV_r, gT_r, gsNil_r, gsCons_r, sFz_r, sAug_r, addI_r, subI_r, sSeq_r, sArgs_r, itemsOf_l, itemsOf_t, sMut_r, fApp_r, Option.bind_some, Option.map_some, List.length_cons, List.length_nil, Nat.zero_add, Nat.reduceAdd, Nat.reduceLT, Nat.reduceLeDiff, List.set_cons_zero, List.set_cons_succ, if_true, Bool.false_eq_true, if_false, Bool.not_true, Bool.not_false, decide_true, decide_false, reduceCtorEq, q3, q5, q6, c]⟩
    · exact ⟨r0 + N / 16 % 3 - 1, by simp only [eK_r, eV_0, eV_s, eB_0v, eB_0b, eB_0p, eB_0o, eB_s, eP_0v, eP_0b, eP_s, eS_0, eS_s, getS_0, getS_s, aNil_r, aCons_r, eOp_r, eUn_r, eCall_r, eBm_r, eTup_r, eLst_r, eIf_r, eAnd_r, eOr_r, eNot_r, eIs_r, eChain_r, eSl_r, oNo_r, oSo_r, asI_r, bT_r, bV_r, bYes_r, asB_r, truth_b, truth_l, truth_t, truth_n, truth_i, bAnd_r, bOr_r, bNot_r, oAdd_i, oSub_i, oNeg_i, oLt_i, oLe_i, oGt_i, oGe_i, cInt_i, cInt_b, cLen_l, cLen_t, cList_l, cList_t, cMax2_i, cMin2_i, cAbs_i, isT_int_i, isT_bool_i, isT_bool_b, isT_int_b, isT_tuple_t, isT_list_l, oEq_i, oNe_i, oEq_b, oNe_b, oIsN_n, oNotN_n, oIsN_i, oNotN_i, oIsB_b, oNotB_b, sSeqn_r, sNext_r, sBrk_r, sCnt_r, sRetN_r, sExpr_r, sRet_r, sRetOwn_r, sIf_r, sSet_r, sOwn_r, sAsg_r, gV_r, gT_r, gsNil_r, gsCons_r, sFz_r, sAug_r, addI_r, subI_r, sSeq_r, sArgs_r, itemsOf_l, itemsOf_t, sMut_r, fApp_r, Option.bind_some, Option.map_some, List.length_cons, List.length_nil, Nat.zero_add, Nat.reduceAdd, Nat.reduceLT, Nat.reduceLeDiff, List.set_cons_zero, List.set_cons_succ, if_true, Bool.false_eq_true, if_false, Bool.not_true, Bool.not_false, decide_true, decide_false, reduceCtorEq, q5, c]⟩
  obtain ⟨r2, e2⟩ : ∃ r2 : Int, sIf (bT (eOp oEq (eOp oMod (eCall cInt (aCons (eB 2) aNil)) (eK (.int 16))) (eK (.int 5)))) (sSet 4 (eOp oMulS (eB 4) (eOp oPow (eK (.int 10)) (eK (.int 9))))) sNext (R21 ns d N ar (.val (.int r1)) .un .un .un .un) = some (.nx (R21 ns d N ar (.val (.int r2)) .un .un .un .un)) := by
    by_cases c : N % 16 = 5
    · have y3 : oMulS (.int r1) (.int 1000000000) = some (.int (r1 * 1000000000)) := oMul_r (by omega) (by omega)
      exact ⟨r1 * 1000000000, by simp only [eK_r, eV_0, eV_s, eB_0v, eB_0b, eB_0p, eB_0o, eB_s, eP_0v, eP_0b, eP_s, eS_0, eS_s, getS_0, getS_s, aNil_r, aCons_r, eOp_r, eUn_r, eCall_r, eBm_r, eTup_r, eLst_r, eIf_r, eAnd_r, eOr_r, eNot_r, eIs_r, eChain_r, eSl_r, oNo_r, oSo_r, asI_r, bT_r, bV_r, bYes_r, asB_r, truth_b, truth_l, truth_t, truth_n, truth_i, bAnd_r, bOr_r, bNot_r, oAdd_i, oSub_i, oNeg_i, oLt_i, oLe_i, oGt_i, oGe_i, cInt_i, cInt_b, cLen_l, cLen_t, cList_l, cList_t, cMax2_i, cMin2_i, cAbs_i, isT_int_i, isT_bool_i, isT_bool_b, isT_int_b, isT_tuple_t, isT_list_l, oEq_i, oNe_i, oEq_b, oNe_b, oIsN_n, oNotN_n, oIsN_i, oNotN_i, oIsB_b, oNotB_b, sSeqn_r, sNext_r, sBrk_r, sCnt_r, sRetN_r, sExpr_r, sRet_r, sRetOwn_r, sIf_r, sSet_r, sOwn_r, sAsg_r, gV_r, gT_r, gsNil_r, gsCons_r, sFz_r, sAug_r, addI_r, subI_r, sSeq_r, sArgs_r, itemsOf_l, itemsOf_t, sMut_r, fApp_r, Option.bind_some, Option.map_some, List.length_cons, List.length_nil, Nat.zero_add, Nat.reduceAdd, Nat.reduceLT, Nat.reduceLeDiff, List.set_cons_zero, List.set_cons_succ, if_true, Bool.false_eq_true, if_false, Bool.not_true, Bool.not_false, decide_true, decide_false, reduceCtorEq, q7, c, oPow9, y3]⟩
    · exact ⟨r1, by simp only [eK_r, eV_0, eV_s, eB_0v, eB_0b, eB_0p, eB_0o, eB_s, eP_0v, eP_0b, eP_s, eS_0, eS_s, getS_0, getS_s, aNil_r, aCons_r, eOp_r, eUn_r, eCall_r, eBm_r, eTup_r, eLst_r, eIf_r, eAnd_r, eOr_r, eNot_r, eIs_r, eChain_r, eSl_r, oNo_r, oSo_r, asI_r, bT_r, bV_r, bYes_r, asB_r, truth_b, truth_l, truth_t, truth_n, truth_i, bAnd_r, bOr_r, bNot_r, oAdd_i, oSub_i, oNeg_i, oLt_i, oLe_i, oGt_i, oGe_i, cInt_i, cInt_b, cLen_l, cLen_t, cList_l, cList_t, cMax2_i, cMin2_i, cAbs_i, isT_int_i, isT_bool_i, isT_bool_b, isT_int_b, isT_tuple_t, isT_list_l, oEq_i, oNe_i, oEq_b, oNe_b, oIsN_n, oNotN_n, oIsN_i, oNotN_i, oIsB_b, oNotB_b, sSeqn_r, sNext_r, sBrk_r, sCnt_r, sRetN_r, sExpr_r, sRet_r, sRetOwn_r, sIf_r, sSet_r, sOwn_r, sAsg_r, gV_r, gT_r, gsNil_r, gsCons_r, sFz_r, sAug_r, addI_r, subI_r, sSeq_r, sArgs_r, itemsOf_l, itemsOf_t, sMut_r, fApp_r, Option.bind_some, Option.map_some, List.length_cons, List.length_nil, Nat.zero_add, Nat.reduceAdd, Nat.reduceLT, Nat.reduceLeDiff, List.set_cons_zero, List.set_cons_succ, if_true, Bool.false_eq_true, if_false, Bool.not_true, Bool.not_false, decide_true, decide_false, reduceCtorEq, q7, c]⟩
  obtain ⟨r3, e3⟩ : ∃ r3 : Int, sIf (bT (eOp oEq (eOp oMod (eCall cInt (aCons (eB 2) aNil)) (eK (.int 16))) (eK (.int 7)))) (sSet 4 (eOp oMod (eCall cInt (aCons (eOp oFdiv (eB 2) (eK (.int 16))) aNil)) (eOp oPow (eK (.int 10)) (eK (.int 8))))) sNext (R21 ns d N ar (.val (.int r2)) .un .un .un .un) = some (.nx (R21 ns d N ar (.val (.int r3)) .un .un .un .un)) := by
    by_cases c : N % 16 = 7
    · have y4 : oPow (.int 10) (.int 8) = some (.int 100000000) := oPow8
      exact ⟨N / 16 % 100000000, by simp only [eK_r, eV_0, eV_s, eB_0v, eB_0b, eB_0p, eB_0o, eB_s, eP_0v, eP_0b, eP_s, eS_0, eS_s, getS_0, getS_s, aNil_r, aCons_r, eOp_r, eUn_r, eCall_r, eBm_r, eTup_r, eLst_r, eIf_r, eAnd_r, eOr_r, eNot_r, eIs_r, eChain_r, eSl_r, oNo_r, oSo_r, asI_r, bT_r, bV_r, bYes_r, asB_r, truth_b, truth_l, truth_t, truth_n, truth_i, bAnd_r, bOr_r, bNot_r, oAdd_i, oSub_i, oNeg_i, oLt_i, oLe_i, oGt_i, oGe_i, cInt_i, cInt_b, cLen_l, cLen_t, cList_l, cList_t, cMax2_i, cMin2_i, cAbs_i, isT_int_i, isT_bool_i, isT_bool_b, isT_int_b, isT_tuple_t, isT_list_l, oEq_i, oNe_i, oEq_b, oNe_b, oIsN_n, oNotN_n, oIsN_i, oNotN_i, oIsB_b, oNotB_b, sSeqn_r, sNext_r, sBrk_r, sCnt_r, sRetN_r, sExpr_r, sRet_r, sRetOwn_r, sIf_r, sSet_r, sOwn_r, sAsg_r, gV_r, gT_r, gsNil_r, gsCons_r, sFz_r, sAug_r, addI_r, subI_r, sSeq_r, sArgs_r, itemsOf_l, itemsOf_t, sMut_r, fApp_r, Option.bind_some, Option.map_some, List.length_cons, List.length_nil, Nat.zero_add, Nat.reduceAdd, Nat.reduceLT, Nat.reduceLeDiff, List.set_cons_zero, List.set_cons_succ, if_true, Bool.false_eq_true, if_false, Bool.not_true, Bool.not_false, decide_true, decide_false, reduceCtorEq, q3, q7, q8, c, y4]⟩
    · exact ⟨r2, by simp only [eK_r, eV_0, eV_s, eB_0v, eB_0b, eB_0p, eB_0o, eB_s, eP_0v, eP_0b, eP_s, eS_0, eS_s, getS_0, getS_s, aNil_r, aCons_r, eOp_r, eUn_r, eCall_r, eBm_r, eTup_r, eLst_r, eIf_r, eAnd_r, eOr_r, eNot_r, eIs_r, eChain_r, eSl_r, oNo_r, oSo_r, asI_r, bT_r, bV_r, bYes_r, asB_r, truth_b, truth_l, truth_t, truth_n, truth_i, bAnd_r, bOr_r, bNot_r, oAdd_i, oSub_i, oNeg_i, oLt_i, oLe_i, oGt_i, oGe_i, cInt_i, cInt_b, cLen_l, cLen_t, cList_l, cList_t, cMax2_i, cMin2_i, cAbs_i, isT_int_i, isT_bool_i, isT_bool_b, isT_int_b, isT_tuple_t, isT_list_l, oEq_i, oNe_i, oEq_b, oNe_b, oIsN_n, oNotN_n, oIsN_i, oNotN_i, oIsB_b, oNotB_b, sSeqn_r, sNext_r, sBrk_r, sCnt_r, sRetN_r, sExpr_r, sRet_r, sRetOwn_r, sIf_r, sSet_r, sOwn_r, sAsg_r, gV_r, gT_r, gsNil_r, gsCons_r, sFz_r, sAug_r, addI_r, subI_r, sSeq_r, sArgs_r, itemsOf_l, itemsOf_t, sMut_r, fApp_r, Option.bind_some, Option.map_some, List.length_cons, List.length_nil, Nat.zero_add, Nat.reduceAdd, Nat.reduceLT, Nat.reduceLeDiff, List.set_cons_zero, List.set_cons_succ, if_true, Bool.false_eq_true, if_false, Bool.not_true, Bool.not_false, decide_true, decide_false, reduceCtorEq, q7, c]⟩
  obtain ⟨t6, e6⟩ := hcp (fun h s => R21 ns d N ar (.val (.int r3)) (.own h) s .un .un) (fun _ _ _ => rfl) (fun h k v d' k1 k2 => by
    have k3 := hdg k v k1
    unfold L_law_1
    show (sDPut 5 _ _) [_, .val d, _, _, _, .own h, .val (.str k), _, _] = _
    rw [sDPut_r]
    simp only [eK_r, eV_0, eV_s, eB_0v, eB_0b, eB_0p, eB_0o, eB_s, eP_0v, eP_0b, eP_s, eS_0, eS_s, getS_0, getS_s, aNil_r, aCons_r, eOp_r, eUn_r, eCall_r, eBm_r, eTup_r, eLst_r, eIf_r, eAnd_r, eOr_r, eNot_r, eIs_r, eChain_r, eSl_r, oNo_r, oSo_r, asI_r, bT_r, bV_r, bYes_r, asB_r, truth_b, truth_l, truth_t, truth_n, truth_i, bAnd_r, bOr_r, bNot_r, oAdd_i, oSub_i, oNeg_i, oLt_i, oLe_i, oGt_i, oGe_i, cInt_i, cInt_b, cLen_l, cLen_t, cList_l, cList_t, cMax2_i, cMin2_i, cAbs_i, isT_int_i, isT_bool_i, isT_bool_b, isT_int_b, isT_tuple_t, isT_list_l, oEq_i, oNe_i, oEq_b, oNe_b, oIsN_n, oNotN_n, oIsN_i, oNotN_i, oIsB_b, oNotB_b, sSeqn_r, sNext_r, sBrk_r, sCnt_r, sRetN_r, sExpr_r, sRet_r, sRetOwn_r, sIf_r, sSet_r, sOwn_r, sAsg_r, gV_r, gT_r, gsNil_r, gsCons_r, sFz_r, sAug_r, addI_r, subI_r, sSeq_r, sArgs_r, itemsOf_l, itemsOf_t, sMut_r, fApp_r, Option.bind_some, Option.map_some, List.length_cons, List.length_nil, Nat.zero_add, Nat.reduceAdd, Nat.reduceLT, Nat.reduceLeDiff, List.set_cons_zero, List.set_cons_succ, if_true, Bool.false_eq_true, if_false, Bool.not_true, Bool.not_false, decide_true, decide_false, reduceCtorEq, k3, k2]) m [] .un rfl
  have e6 : forGo (gV 6) L_law_1 (m.map fun p => .str p.1) (R21 ns d N ar (.val (.int r3)) (.own (.dict [])) .un .un .un) = some (.nx (R21 ns d N ar (.val (.int r3)) (.own d) t6 .un .un)) := by rw [← hd]; rw [← hd] at e6; exact e6
  unfold B_law
  rw [seq_nx (ρ' := [.scr (.list (ns.map .int)), .val d, .un, .un, .un, .un, .un, .un, .un]) (by simp [c0, s0, eb])]
  rw [seq_nx (ρ' := [.scr (.list (ns.map .int)), .val d, .val (.int N), .un, .un, .un, .un, .un, .un]) (by simp [c1, s1])]
  rw [seq_nx (ρ' := R21 ns d N ar .un .un .un .un .un) (by simp only [eK_r, eV_0, eV_s, eB_0v, eB_0b, eB_0p, eB_0o, eB_s, eP_0v, eP_0b, eP_s, eS_0, eS_s, getS_0, getS_s, aNil_r, aCons_r, eOp_r, eUn_r, eCall_r, eBm_r, eTup_r, eLst_r, eIf_r, eAnd_r, eOr_r, eNot_r, eIs_r, eChain_r, eSl_r, oNo_r, oSo_r, asI_r, bT_r, bV_r, bYes_r, asB_r, truth_b, truth_l, truth_t, truth_n, truth_i, bAnd_r, bOr_r, bNot_r, oAdd_i, oSub_i, oNeg_i, oLt_i, oLe_i, oGt_i, oGe_i, cInt_i, cInt_b, cLen_l, cLen_t, cList_l, cList_t, cMax2_i, cMin2_i, cAbs_i, isT_int_i, isT_bool_i, isT_bool_b, isT_int_b, isT_tuple_t, isT_list_l, oEq_i, oNe_i, oEq_b, oNe_b, oIsN_n, oNotN_n, oIsN_i, oNotN_i, oIsB_b, oNotB_b, sSeqn_r, sNext_r, sBrk_r, sCnt_r, sRetN_r, sExpr_r, sRet_r, sRetOwn_r, sIf_r, sSet_r, sOwn_r, sAsg_r, gV_r, gT_r, gsNil_r, gsCons_r, sFz_r, sAug_r, addI_r, subI_r, sSeq_r, sArgs_r, itemsOf_l, itemsOf_t, sMut_r, fApp_r, Option.bind_some, Option.map_some, List.length_cons, List.length_nil, Nat.zero_add, Nat.reduceAdd, Nat.reduceLT, Nat.reduceLeDiff, List.set_cons_zero, List.set_cons_succ, if_true, Bool.false_eq_true, if_false, Bool.not_true, Bool.not_false, decide_true, decide_false, reduceCtorEq, x1, x2, x3, x4, y1, y2, le4]; rfl)]
  rw [seq_nx (ρ' := R21 ns d N ar (.val (.int (r0 + N / 16 % 3 - 1))) .un .un .un .un) (by simp only [eK_r, eV_0, eV_s, eB_0v, eB_0b, eB_0p, eB_0o, eB_s, eP_0v, eP_0b, eP_s, eS_0, eS_s, getS_0, getS_s, aNil_r, aCons_r, eOp_r, eUn_r, eCall_r, eBm_r, eTup_r, eLst_r, eIf_r, eAnd_r, eOr_r, eNot_r, eIs_r, eChain_r, eSl_r, oNo_r, oSo_r, asI_r, bT_r, bV_r, bYes_r, asB_r, truth_b, truth_l, truth_t, truth_n, truth_i, bAnd_r, bOr_r, bNot_r, oAdd_i, oSub_i, oNeg_i, oLt_i, oLe_i, oGt_i, oGe_i, cInt_i, cInt_b, cLen_l, cLen_t, cList_l, cList_t, cMax2_i, cMin2_i, cAbs_i, isT_int_i, isT_bool_i, isT_bool_b, isT_int_b, isT_tuple_t, isT_list_l, oEq_i, oNe_i, oEq_b, oNe_b, oIsN_n, oNotN_n, oIsN_i, oNotN_i, oIsB_b, oNotB_b, sSeqn_r, sNext_r, sBrk_r, sCnt_r, sRetN_r, sExpr_r, sRet_r, sRetOwn_r, sIf_r, sSet_r, sOwn_r, sAsg_r, gV_r, gT_r, gsNil_r, gsCons_r, sFz_r, sAug_r, addI_r, subI_r, sSeq_r, sArgs_r, itemsOf_l, itemsOf_t, sMut_r, fApp_r, Option.bind_some, Option.map_some, List.length_cons, List.length_nil, Nat.zero_add, Nat.reduceAdd, Nat.reduceLT, Nat.reduceLeDiff, List.set_cons_zero, List.set_cons_succ, if_true, Bool.false_eq_true, if_false, Bool.not_true, Bool.not_false, decide_true, decide_false, reduceCtorEq, q1, q2, q3, q4, p0])]
  rw [seq_nx e1, seq_nx e2, seq_nx e3]
  rw [seq_nx (ρ' := R21 ns d N ar (.val (.int r3)) (.own (.dict [])) .un .un .un) (by simp only [eK_r, eV_0, eV_s, eB_0v, eB_0b, eB_0p, eB_0o, eB_s, eP_0v, eP_0b, eP_s, eS_0, eS_s, getS_0, getS_s, aNil_r, aCons_r, eOp_r, eUn_r, eCall_r, eBm_r, eTup_r, eLst_r, eIf_r, eAnd_r, eOr_r, eNot_r, eIs_r, eChain_r, eSl_r, oNo_r, oSo_r, asI_r, bT_r, bV_r, bYes_r, asB_r, truth_b, truth_l, truth_t, truth_n, truth_i, bAnd_r, bOr_r, bNot_r, oAdd_i, oSub_i, oNeg_i, oLt_i, oLe_i, oGt_i, oGe_i, cInt_i, cInt_b, cLen_l, cLen_t, cList_l, cList_t, cMax2_i, cMin2_i, cAbs_i, isT_int_i, isT_bool_i, isT_bool_b, isT_int_b, isT_tuple_t, isT_list_l, oEq_i, oNe_i, oEq_b, oNe_b, oIsN_n, oNotN_n, oIsN_i, oNotN_i, oIsB_b, oNotB_b, sSeqn_r, sNext_r, sBrk_r, sCnt_r, sRetN_r, sExpr_r, sRet_r, sRetOwn_r, sIf_r, sSet_r, sOwn_r, sAsg_r, gV_r, gT_r, gsNil_r, gsCons_r, sFz_r, sAug_r, addI_r, subI_r, sSeq_r, sArgs_r, itemsOf_l, itemsOf_t, sMut_r, fApp_r, Option.bind_some, Option.map_some, List.length_cons, List.length_nil, Nat.zero_add, Nat.reduceAdd, Nat.reduceLT, Nat.reduceLeDiff, List.set_cons_zero, List.set_cons_succ, if_true, Bool.false_eq_true, if_false, Bool.not_true, Bool.not_false, decide_true, decide_false, reduceCtorEq])]
  rw [seq_nx ((sFor_eq (ds := m.map fun p => .str p.1) (by simp only [eK_r, eV_0, eV_s, eB_0v, eB_0b, eB_0p, eB_0o, eB_s, eP_0v, eP_0b, eP_s, eS_0, eS_s, getS_0, getS_s, aNil_r, aCons_r, eOp_r, eUn_r, eCall_r, eBm_r, eTup_r, eLst_r, eIf_r, eAnd_r, eOr_r, eNot_r, eIs_r, eChain_r, eSl_r, oNo_r, oSo_r, asI_r, bT_r, bV_r, bYes_r, asB_r, truth_b, truth_l, truth_t, truth_n, truth_i, bAnd_r, bOr_r, bNot_r, oAdd_i, oSub_i, oNeg_i, oLt_i, oLe_i, oGt_i, oGe_i, cInt_i, cInt_b, cLen_l, cLen_t, cList_l, cList_t, cMax2_i, cMin2_i, cAbs_i, isT_int_i, isT_bool_i, isT_bool_b, isT_int_b, isT_tuple_t, isT_list_l, oEq_i, oNe_i, oEq_b, oNe_b, oIsN_n, oNotN_n, oIsN_i, oNotN_i, oIsB_b, oNotB_b, sSeqn_r, sNext_r, sBrk_r, sCnt_r, sRetN_r, sExpr_r, sRet_r, sRetOwn_r, sIf_r, sSet_r, sOwn_r, sAsg_r, gV_r, gT_r, gsNil_r, gsCons_r, sFz_r, sAug_r, addI_r, subI_r, sSeq_r, sArgs_r, itemsOf_l, itemsOf_t, sMut_r, fApp_r, Option.bind_some, Option.map_some, List.length_cons, List.length_nil, Nat.zero_add, Nat.reduceAdd, Nat.reduceLT, Nat.reduceLeDiff, List.set_cons_zero, List.set_cons_succ, if_true, Bool.false_eq_true, if_false, Bool.not_true, Bool.not_false, decide_true, decide_false, reduceCtorEq, sKeys_r, hk])).trans e6)]
  exact law_end ns d ar N lw mw pd bd r3 t6 hlw.1 hpd.1 hbd.1 x1 x2 x3 x4 hF hS (he true) (he false)
end Lw
open PySem PySem.W PyProof.Rows
set_option maxHeartbeats 0 in
theorem PySem.Challenge.cw_quirekiln_k21_bounded_widths_holds : PySem.Challenge.rw_quirekiln_k21_bounded_widths.Holds := by
  w_on; o_law; k_head; (case hw => w_witness2)
  k_fill
  refine L2.walk_ofB (l := PySem.Challenge.rw_quirekiln_k21_bounded_widths) (n := 63) (k := 3) (x := "script") (CX := fun _ => L2.CX0) (sp := fun w => DV.spD _ .val [.scr] Lw.F_law) rfl (by decide) rfl ⟨rfl, by decide, by decide⟩ (fun w h Y => PySem.W.kIn_of Y) ?F (fun _ _ a ns hl hb _ hS => DV.law_sp hS (Lw.law_true ns hl hb)) (fun _ _ _ _ _ h => h)
  case F =>
    intro w mg fa h KX G hmg
    refine' Lw.all_mk KX G hmg ?a0 ?l0 ?c0 ?k0 ?a1 ?l1 ?c1 ?k1 ?a2 ?l2 ?c2 ?k2 ?a3 ?l3 ?c3 ?k3 ?a4 ?l4 ?c4 ?k4 ?a5 ?l5 ?c5 ?k5 ?a6 ?l6 ?c6 ?k6 ?a7 ?l7 ?c7 ?k7 ?a8 ?l8 ?c8 ?k8 ?z_int ?z_len ?z_max ?z_min ?z_bool ?z_isinstance
    (case a0 => k_is); (case l0 => k_is); (case c0 => k_is); (case k0 => k_is); (case a1 => k_is); (case l1 => k_is); (case c1 => k_is); (case k1 => k_is); (case a2 => k_is); (case l2 => k_is); (case c2 => k_is); (case k2 => k_is); (case a3 => k_is); (case l3 => k_is); (case c3 => k_is); (case k3 => k_is); (case a4 => k_is); (case l4 => k_is); (case c4 => k_is); (case k4 => k_is); (case a5 => k_is); (case l5 => k_is); (case c5 => k_is); (case k5 => k_is); (case a6 => k_is); (case l6 => k_is); (case c6 => k_is); (case k6 => k_is); (case a7 => k_is); (case l7 => k_is); (case c7 => k_is); (case k7 => k_is); (case a8 => k_is); (case l8 => k_is); (case c8 => k_is); (case k8 => k_is); (case z_int => k_is); (case z_len => k_is); (case z_max => k_is); (case z_min => k_is); (case z_bool => k_is); (case z_isinstance => k_is)
