import PyProof.Rows.All
import Wide.All
import OpenK.AllK
import Wide.FinOn
import HandS.Base
import HandS.Call
import HandS.List
import HandS.Comp
import HandS.Ends
import HandS.Dict
import HandS.Iter
import HandS.Text
import HandS.Words
import HandS.WordsList
import HandS.Wide
import HandS.Flow
import HandS.Style
import HandS.IsInst
import HandS.More
import HandS.Deep
import HandS.Codes
import HandS.StrMore
import HandS.Defaults
import HandS.MakeKwOnly
import HandS.TupLen
import HandS.TupAny
import HandS.DictComp
import HandS.Flt
import HandS.SetBool
import HandS.Strs
import HandS.SortRule
import HandS.SortInts
import HandS.Property
import HandS.OwnIter
import HandS.IterNext
import HandS.Conv
import KE.KDictCopyH
import PyProof.Rows.StrMeet
import HandS.AnyAll
import HandS.EndTab
import HandS.EndBits
import PySem.Challenge.RW_quirekiln_k33_weight_of_a_selector
set_option Elab.async false
set_option linter.all false
set_option maxRecDepth 100000
set_option maxHeartbeats 4000000
namespace DV
open PySem L2

/-! ### heaps that grow -/
def Ex (H H' : Hp) : Prop := ∀ a o, H a = some o → H' a = some o
theorem Ex.refl (H : Hp) : Ex H H := fun _ _ h => h
theorem Ex.trans {H H1 H2 : Hp} (a : Ex H H1) (b : Ex H1 H2) : Ex H H2 := fun x o h => b x o (a x o h)
theorem Ex.new {H : Hp} {p : Addr} {o : HO} (h : H p = none) : Ex H (upd H p o) := fun a u e => by
  rw [upd_ne (ne_of_none e h)]; exact e
/-- an object that H does not know may change -/
theorem Ex.mut {H H' : Hp} {p : Addr} {o : HO} (e : Ex H H') (h : H p = none) : Ex H (upd H' p o) := fun a u ha => by
  rw [upd_ne (ne_of_none ha h)]; exact e a u ha
theorem Ex.upd2 {H H' : Hp} {p : Addr} {o : HO} (e : Ex H H') : Ex (upd H p o) (upd H' p o) := fun a u ha => by
  by_cases h : a = p
  · subst h; rw [upd_same] at ha ⊢; exact ha
  · rw [upd_ne h] at ha ⊢; exact e a u ha
theorem Ex.back {H H' : Hp} {p : Addr} (e : Ex H H') (h : H' p = none) : H p = none := by
  cases h1 : H p with
  | none => rfl
  | some o => rw [e p o h1] at h; cases h
theorem Ex.rd {H H' : Hp} {a : Addr} {u : HO} (e : Ex H H') (h : Rd H a u) : Rd H' a u := by
  rcases h with h | ⟨o, h⟩
  · exact Or.inl (e a _ h)
  · exact Or.inr ⟨o, e a _ h⟩
theorem Ex.sql {K : PySem.W.Frag} {H H' : Hp} {a : Addr} {xs : List V} (e : Ex H H') (h : SqL K H a xs) : SqL K H' a xs := h.imp e.rd id
theorem Ex.sqt {K : PySem.W.Frag} {H H' : Hp} {a : Addr} {xs : List V} (e : Ex H H') (h : SqT K H a xs) : SqT K H' a xs := h.imp e.rd id

theorem sqtOf {K : PySem.W.Frag} {G : Hp} {a : Addr} {vs : List V} (h : G a = some (.tup vs)) : SqT K G a vs := .inl (.inl h)
/-! ### deep values -/
/-- the keys of a dict as data -/
def keyD : Key → PyData
  | .inl i => .int i
  | .inr x => .str x
def keysD (ks : List Key) : PyData := .tuple (ks.map keyD)
mutual
inductive Rep (K : PySem.W.Frag) (G : Hp) : PyData → V → Prop
  | non : Rep K G .none .non
  | bl (b : Bool) : Rep K G (.bool b) (.bl b)
  | int (i : Int) : Rep K G (.int i) (.int i)
  | str (x : Str) : Rep K G (.str x) (.str x)
  | lst {a : Addr} {vs : List V} {ds : List PyData} : Rd G a (.lst vs) → RepA K G ds vs → Rep K G (.list ds) (.ref a)
  | tup {a : Addr} {vs : List V} {ds : List PyData} : G a = some (.tup vs) → RepA K G ds vs → Rep K G (.tuple ds) (.ref a)
  | dK {a : Addr} {ks : List (Key × V)} {es : List (PyData × PyData)} : (∃ o, G a = some (.frz o (.dK ks))) → es.map (·.1) = ks.map (fun p => keyD p.1) → RepA K G (es.map (·.2)) (ks.map (·.2)) → Rep K G (.dict es) (.ref a)
  | dT {a : Addr} {ks : List (List Key × V)} {es : List (PyData × PyData)} : (∃ o, G a = some (.frz o (.dT ks))) → es.map (·.1) = ks.map (fun p => keysD p.1) → RepA K G (es.map (·.2)) (ks.map (·.2)) → Rep K G (.dict ((.none, .none) :: es)) (.ref a)
inductive RepA (K : PySem.W.Frag) (G : Hp) : List PyData → List V → Prop
  | nil : RepA K G [] []
  | cons {d : PyData} {ds : List PyData} {v : V} {vs : List V} : Rep K G d v → RepA K G ds vs → RepA K G (d :: ds) (v :: vs)
end
section
variable {K : PySem.W.Frag} {G G' H : Hp}
mutual
theorem Rep.mono (e : Ex G G') : ∀ {d : PyData} {v : V}, Rep K G d v → Rep K G' d v
  | _, _, .non => .non
  | _, _, .bl b => .bl b
  | _, _, .int i => .int i
  | _, _, .str x => .str x
  | _, _, .lst h r => .lst (e.rd h) (RepA.mono e r)
  | _, _, .tup h r => .tup (e _ _ h) (RepA.mono e r)
  | _, _, .dK h k r => .dK (h.imp fun o q => e _ _ q) k (RepA.mono e r)
  | _, _, .dT h k r => .dT (h.imp fun o q => e _ _ q) k (RepA.mono e r)
theorem RepA.mono (e : Ex G G') : ∀ {ds : List PyData} {vs : List V}, RepA K G ds vs → RepA K G' ds vs
  | _, _, .nil => .nil
  | _, _, .cons h r => .cons (Rep.mono e h) (RepA.mono e r)
end
theorem RepA.len : ∀ {ds : List PyData} {vs : List V}, RepA K G ds vs → ds.length = vs.length
  | _, _, .nil => rfl
  | _, _, .cons _ r => congrArg (· + 1) r.len
theorem RepA.get : ∀ {ds : List PyData} {vs : List V} {i : Nat} {d : PyData}, RepA K G ds vs → ds[i]? = some d → ∃ v, vs[i]? = some v ∧ Rep K G d v
  | _, _, _, _, .nil, e => by simp at e
  | _, _, 0, _, .cons h _, e => by simp at e; subst e; exact ⟨_, rfl, h⟩
  | _, _, i + 1, d, .cons _ r, e => by
    obtain ⟨v, h1, h2⟩ := RepA.get (i := i) (d := d) r (by simpa using e)
    exact ⟨v, by simpa using h1, h2⟩
theorem RepA.getV {ds : List PyData} {vs : List V} {i : Nat} {v : V} (r : RepA K G ds vs) (e : vs[i]? = some v) : ∃ d, ds[i]? = some d ∧ Rep K G d v := by
  have hi := (List.getElem?_eq_some_iff.mp e).1
  rw [← r.len] at hi
  obtain ⟨w, h1, h2⟩ := r.get (List.getElem?_eq_getElem hi)
  rw [e] at h1; cases h1
  exact ⟨_, List.getElem?_eq_getElem hi, h2⟩
theorem RepA.app : ∀ {ds es : List PyData} {vs us : List V}, RepA K G ds vs → RepA K G es us → RepA K G (ds ++ es) (vs ++ us)
  | _, _, _, _, .nil, s => s
  | _, _, _, _, .cons h r, s => .cons h (RepA.app r s)
theorem RepA.take : ∀ {ds : List PyData} {vs : List V} (n : Nat), RepA K G ds vs → RepA K G (ds.take n) (vs.take n)
  | _, _, 0, _ => .nil
  | _, _, _ + 1, .nil => .nil
  | _, _, n + 1, .cons h r => .cons h (RepA.take n r)
theorem RepA.drop : ∀ {ds : List PyData} {vs : List V} (n : Nat), RepA K G ds vs → RepA K G (ds.drop n) (vs.drop n)
  | _, _, 0, r => r
  | _, _, _ + 1, .nil => .nil
  | _, _, n + 1, .cons _ r => RepA.drop n r
theorem RepA.set : ∀ {ds : List PyData} {vs : List V} {d : PyData} {v : V} (i : Nat), RepA K G ds vs → Rep K G d v → RepA K G (ds.set i d) (vs.set i v)
  | _, _, _, _, _, .nil, _ => .nil
  | _, _, _, _, 0, .cons _ r, h => .cons h r
  | _, _, _, _, i + 1, .cons q r, h => .cons q (RepA.set i r h)
theorem RepA.reverse {ds : List PyData} {vs : List V} (r : RepA K G ds vs) : RepA K G ds.reverse vs.reverse := by
  induction ds generalizing vs with
  | nil => cases r; exact .nil
  | cons d ds ih =>
    cases r with
    | cons h r =>
      rw [List.reverse_cons, List.reverse_cons]
      exact (ih r).app (.cons h .nil)
/-- data made of ints -/
theorem RepA.ints (ns : List Int) : RepA K G (ns.map .int) (ns.map V.int) := by
  induction ns with
  | nil => exact .nil
  | cons n r ih => exact .cons (.int n) ih
theorem RepA.ofInts : ∀ {ns : List Int} {vs : List V}, RepA K G (ns.map .int) vs → vs = ns.map V.int
  | [], _, .nil => rfl
  | n :: r, _, .cons h t => by
    cases h
    rw [RepA.ofInts t]; rfl
theorem RepA.ofStrs : ∀ {ns : List Str} {vs : List V}, RepA K G (ns.map .str) vs → vs = ns.map V.str
  | [], _, .nil => rfl
  | n :: r, _, .cons h t => by
    cases h
    rw [RepA.ofStrs t]; rfl
theorem RepA.strs (ns : List Str) : RepA K G (ns.map .str) (ns.map V.str) := by
  induction ns with
  | nil => exact .nil
  | cons n r ih => exact .cons (.str n) ih

/-- what is read now: its root may be somebody's own -/
inductive RepB (K : PySem.W.Frag) (G H : Hp) : PyData → V → Prop
  | val {d : PyData} {v : V} : Rep K G d v → RepB K G H d v
  | lst {a : Addr} {vs : List V} {ds : List PyData} : H a = some (.lst vs) → RepA K G ds vs → RepB K G H (.list ds) (.ref a)
  | dK {a : Addr} {ks : List (Key × V)} {es : List (PyData × PyData)} : H a = some (.dK ks) → es.map (·.1) = ks.map (fun p => keyD p.1) → RepA K G (es.map (·.2)) (ks.map (·.2)) → RepB K G H (.dict es) (.ref a)
  | dT {a : Addr} {ks : List (List Key × V)} {es : List (PyData × PyData)} : H a = some (.dT ks) → es.map (·.1) = ks.map (fun p => keysD p.1) → RepA K G (es.map (·.2)) (ks.map (·.2)) → RepB K G H (.dict ((.none, .none) :: es)) (.ref a)
theorem RepB.mono {H' : Hp} (e : Ex G G') (e2 : Ex H H') {d : PyData} {v : V} (h : RepB K G H d v) : RepB K G' H' d v := by
  cases h with
  | val h => exact .val (h.mono e)
  | lst h r => exact .lst (e2 _ _ h) (r.mono e)
  | dK h k r => exact .dK (e2 _ _ h) k (r.mono e)
  | dT h k r => exact .dT (e2 _ _ h) k (r.mono e)

/-- the script, a list of ints that is read alone -/
def RepS (K : PySem.W.Frag) (H : Hp) (d : PyData) (v : V) : Prop := ∃ (a : Addr) (ns : List Int), v = .ref a ∧ d = .list (ns.map .int) ∧ SqL K H a (ns.map V.int)
theorem RepS.mono {H' : Hp} (e : Ex H H') {d : PyData} {v : V} (h : RepS K H d v) : RepS K H' d v := by
  obtain ⟨a, ns, e1, e2, q⟩ := h
  exact ⟨a, ns, e1, e2, e.sql q⟩
/-- what an own root holds -/
inductive Own (K : PySem.W.Frag) (G H : Hp) (a : Addr) : PyData → Prop
  | lst {vs : List V} {ds : List PyData} : H a = some (.lst vs) → RepA K G ds vs → Own K G H a (.list ds)
  | dK {ks : List (Key × V)} {es : List (PyData × PyData)} : H a = some (.dK ks) → es.map (·.1) = ks.map (fun p => keyD p.1) → RepA K G (es.map (·.2)) (ks.map (·.2)) → Own K G H a (.dict es)
  | dT {ks : List (List Key × V)} {es : List (PyData × PyData)} : H a = some (.dT ks) → es.map (·.1) = ks.map (fun p => keysD p.1) → RepA K G (es.map (·.2)) (ks.map (·.2)) → Own K G H a (.dict ((.none, .none) :: es))
theorem Own.mono {H' : Hp} {a : Addr} (e : Ex G G') (e2 : H' a = H a) {d : PyData} (h : Own K G H a d) : Own K G' H' a d := by
  cases h with
  | lst h r => exact .lst (e2.trans h) (r.mono e)
  | dK h k r => exact .dK (e2.trans h) k (r.mono e)
  | dT h k r => exact .dT (e2.trans h) k (r.mono e)
theorem Own.there {a : Addr} {d : PyData} (h : Own K G H a d) : ∃ o, H a = some o := by
  cases h with
  | lst h r => exact ⟨_, h⟩
  | dK h k r => exact ⟨_, h⟩
  | dT h k r => exact ⟨_, h⟩
theorem Own.bor {a : Addr} {d : PyData} (h : Own K G H a d) : RepB K G H d (.ref a) := by
  cases h with
  | lst h r => exact .lst h r
  | dK h k r => exact .dK h k r
  | dT h k r => exact .dT h k r
/-- frozen: the root goes over to G; a dict is locked then -/
def Lk (u u' : HO) : Prop := u' = u ∨ Mut (some u) ∧ ∃ od, u' = .frz od u
theorem Own.freeze {a : Addr} {d : PyData} (h : Own K G H a d) (n : G a = none) : ∃ u, H a = some u ∧ (Rep K (upd G a u) d (.ref a) ∨ Mut (some u) ∧ ∀ od, Rep K (upd G a (.frz od u)) d (.ref a)) := by
  cases h with
  | lst h r => exact ⟨_, h, .inl (.lst (.inl upd_same) (r.mono (Ex.new n)))⟩
  | dK h k r => exact ⟨_, h, .inr ⟨trivial, fun od => .dK ⟨od, upd_same⟩ k (r.mono (Ex.new n))⟩⟩
  | dT h k r => exact ⟨_, h, .inr ⟨trivial, fun od => .dT ⟨od, upd_same⟩ k (r.mono (Ex.new n))⟩⟩
end

/-! ### slots -/
inductive Slot where
  | un | val (d : PyData) | bor (d : PyData) | own (d : PyData) | scr (d : PyData) | pin (d : PyData) | st (a : Addr)
abbrev Rho := List Slot
inductive Out where
  | nx (r : Rho) | rt (d : PyData) | bk (r : Rho) | ct (r : Rho)
abbrev SE := Rho → Option PyData
abbrev SB := Rho → Option Bool
abbrev SA := Rho → Option (List PyData)
abbrev SS := Rho → Option Out

/-- what may go over to G: what was not there, or a tuple -/
def Fresh : Option HO → Prop
  | none => True
  | some (.tup _) => True
  | _ => False
theorem Fresh.back {H H' : Hp} (e : Ex H H') {a : Addr} (h : Fresh (H' a)) : Fresh (H a) := by
  cases q : H a with
  | none => trivial
  | some o => rw [e _ _ q] at h; exact h
theorem Own.nofresh {K : PySem.W.Frag} {G H : Hp} {a : Addr} {d : PyData} (h : Own K G H a d) : ¬ Fresh (H a) := by
  cases h with
  | lst h r => rw [h]; exact id
  | dK h k r => rw [h]; exact id
  | dT h k r => rw [h]; exact id
theorem Fresh.of {H : Hp} {a : Addr} (h : H a = none) : Fresh (H a) := by rw [h]; trivial
/-- how the heaps grow within a call: G0, H0 at its entry -/
structure Gx (G0 H0 G H : Hp) : Prop where
  g : Ex G0 G
  h : Ex H0 H
  gh : Ex G H
  nw : ∀ a, G a ≠ none → G0 a ≠ none ∨ Fresh (H0 a)
/-- a call's start: its ghost heap, and the lists that are lent to a loop, by slot -/
structure Fr where
  g : Hp
  b : Hp
  pin : Nat → Option (Addr × List V)
  sts : Nat → Addr → Prop
inductive SlotOk (K : PySem.W.Frag) (S : Nat → Addr → Prop) (B H0 G H : Hp) : Slot → Option V → Prop
  | un {v : Option V} : SlotOk K S B H0 G H .un v
  | val {d : PyData} {v : V} : Rep K G d v → SlotOk K S B H0 G H (.val d) (some v)
  | bor {d : PyData} {v : V} : RepB K G B d v → SlotOk K S B H0 G H (.bor d) (some v)
  | own {d : PyData} {a : Addr} : H0 a = none → G a = none → Own K G H a d → SlotOk K S B H0 G H (.own d) (some (.ref a))
  | scr {d : PyData} {v : V} : RepS K B d v → SlotOk K S B H0 G H (.scr d) (some v)
  | pin {d : PyData} {v : Option V} : SlotOk K S B H0 G H (.pin d) v
  | st {h : Nat} {a : Addr} : S h a → SlotOk K S B H0 G H (.st h) (some (.ref a))
structure Sok (K : PySem.W.Frag) (G0 : Fr) (H0 G : Hp) (ρ : Rho) (σ : St) (H : Hp) : Prop where
  gx : Gx G0.g H0 G H
  len : σ.length = ρ.length
  slot : ∀ (i : Nat) (s : Slot), ρ[i]? = some s → SlotOk K G0.sts G0.b H0 G H s (σ[i]?.getD none)
  apart : ∀ (i j : Nat) (d e : PyData) (a : Addr), i ≠ j → ρ[i]? = some (.own d) → ρ[j]? = some (.own e) → σ[i]? = some (some (.ref a)) → σ[j]? ≠ some (some (.ref a))
  pins : ∀ (i : Nat) (d : PyData), ρ[i]? = some (.pin d) → ∃ a vs ds, G0.pin i = some (a, vs) ∧ σ[i]? = some (some (.ref a)) ∧ d = .list ds ∧ RepA K G ds vs
  base : Ex G0.b H0
  wf : ∀ (i : Nat) (a : Addr) (vs : List V), G0.pin i = some (a, vs) → H0 a = some (.lst vs)
section
variable {K : PySem.W.Frag} {G0 : Fr} {H0 G H G' H' : Hp} {ρ : Rho} {σ : St}
theorem getD_some {σ : L2.St} {i : Nat} {v : V} (h : σ[i]?.getD none = some v) : σ[i]? = some (some v) := by
  cases e : σ[i]? with
  | none => rw [e] at h; cases h
  | some o => rw [e] at h; exact congrArg _ h
/-- the heaps have grown, the slots are as they were -/
theorem Sok.grow (s : Sok K G0 H0 G ρ σ H) (e : Ex G G') (e2 : Ex H H') (e3 : Ex G' H') (nw : ∀ a, G' a ≠ none → G a ≠ none ∨ Fresh (H a)) : Sok K G0 H0 G' ρ σ H' := by
  refine ⟨⟨s.gx.g.trans e, s.gx.h.trans e2, e3, fun a ha => ?_⟩, s.len, fun i q hi => ?_, s.apart, fun i d hi => (s.pins i d hi).imp fun a h => h.imp fun vs h => h.imp fun ds ⟨p1, p2, p3, p4⟩ => ⟨p1, p2, p3, p4.mono e⟩, s.base, s.wf⟩
  · rcases nw a ha with h | h
    · exact s.gx.nw a h
    · exact .inr (h.back s.gx.h)
  · have h := s.slot i q hi
    revert h
    generalize σ[i]?.getD none = w
    intro h
    cases h with
    | un => exact .un
    | val h => exact .val (h.mono e)
    | bor h => exact .bor (h.mono e (Ex.refl _))
    | scr h => exact .scr h
    | pin => exact .pin
    | st h => exact .st h
    | own h1 h2 h3 =>
      obtain ⟨o, ho⟩ := h3.there
      refine .own h1 ?_ (h3.mono e ((e2 _ _ ho).trans ho.symm))
      cases q : G' _ with
      | none => rfl
      | some u =>
        rcases nw _ (by rw [q]; simp) with z | z
        · exact absurd h2 z
        · exact absurd z h3.nofresh
theorem Gx.refl (e : Ex G H) : Gx G H G H := ⟨Ex.refl _, Ex.refl _, e, fun _ h => .inl h⟩
theorem Gx.trans {G1 H1 G2 H2 G3 H3 : Hp} (a : Gx G1 H1 G2 H2) (b : Gx G2 H2 G3 H3) : Gx G1 H1 G3 H3 :=
  ⟨a.g.trans b.g, a.h.trans b.h, b.gh, fun x hx => (b.nw x hx).elim (a.nw x) fun z => .inr (z.back a.h)⟩
theorem Sok.gx' (s : Sok K G0 H0 G ρ σ H) (x : Gx G H G' H') : Sok K G0 H0 G' ρ σ H' := s.grow x.g x.h x.gh x.nw
/-- a new object that goes to G -/
theorem Gx.new {p : Addr} {o : HO} (e : Ex G H) (n : H p = none) : Gx G H (upd G p o) (upd H p o) := by
  have n2 := e.back n
  refine ⟨Ex.new n2, Ex.new n, e.upd2, fun a ha => ?_⟩
  by_cases q : a = p
  · subst q; exact .inr (.of n)
  · rw [upd_ne q] at ha; exact .inl ha
/-- a new object that is nobody's yet -/
theorem Gx.mine {p : Addr} {o : HO} (e : Ex G H) (n : H p = none) : Gx G H G (upd H p o) := ⟨Ex.refl _, Ex.new n, e.trans (Ex.new n), fun _ h => .inl h⟩
end

/-! ### what an expression gives -/
inductive Md where
  | val | par | bor | new | scr
  deriving DecidableEq
def RM (K : PySem.W.Frag) (H0 Hs : Hp) : Md → Hp → Hp → PyData → V → Prop
  | .val, G, _, d, v => Rep K G d v
  | .par, G, _, d, v => RepB K G H0 d v
  | .bor, G, H, d, v => RepB K G H d v
  | .new, G, H, d, v => ∃ p, v = .ref p ∧ Hs p = none ∧ G p = none ∧ Own K G H p d
  | .scr, _, H, d, v => RepS K H d v
section
variable {K : PySem.W.Frag} {G9 H0 G H G' H' Hs : Hp} {G0 : Fr} {ρ : Rho} {σ : L2.St} {d : PyData} {v : V}
theorem RM.mono {m : Md} (x : Gx G H G' H') (h : RM K H0 Hs m G H d v) : RM K H0 Hs m G' H' d v := by
  cases m with
  | val => exact Rep.mono x.g h
  | par => exact RepB.mono x.g (Ex.refl _) h
  | bor => exact RepB.mono x.g x.h h
  | scr => exact RepS.mono x.h h
  | new =>
    obtain ⟨p, e, n, g, o⟩ := h
    obtain ⟨u, hu⟩ := o.there
    refine ⟨p, e, n, ?_, o.mono x.g ((x.h _ _ hu).trans hu.symm)⟩
    cases q : G' p with
    | none => rfl
    | some w =>
      rcases x.nw p (by rw [q]; simp) with z | z
      · exact absurd g z
      · exact absurd z o.nofresh
theorem RM.start {m : Md} {H1 : Hp} (e : Ex H1 Hs) (h : RM K H0 Hs m G H d v) : RM K H0 H1 m G H d v := by
  cases m with
  | val => exact h
  | par => exact h
  | bor => exact h
  | scr => exact h
  | new =>
    obtain ⟨p, e1, n, g, o⟩ := h
    exact ⟨p, e1, e.back n, g, o⟩
theorem RM.bor {m : Md} (hm : m ≠ .scr) (e : Ex H0 H) (h : RM K H0 Hs m G H d v) : RepB K G H d v := by
  cases m with
  | val => exact .val h
  | par => exact RepB.mono (Ex.refl _) e h
  | bor => exact h
  | scr => exact absurd rfl hm
  | new =>
    obtain ⟨p, rfl, n, g, o⟩ := h
    exact o.bor
/-- frozen: a new one goes over to G -/
theorem Gx.put {p : Addr} {u : HO} (x : Gx G9 Hs G H) (n : Hs p = none) (g : G p = none) : Gx G9 Hs (upd G p u) (upd H p u) := by
  refine ⟨x.g.trans (Ex.new g), fun a w hw => ?_, fun a w hw => ?_, fun a ha => ?_⟩
  · rw [upd_ne (ne_of_none hw n)]; exact x.h a w hw
  · by_cases q : a = p
    · subst q; rw [upd_same] at hw ⊢; exact hw
    · rw [upd_ne q] at hw ⊢; exact x.gh a w hw
  · by_cases q : a = p
    · subst q; exact .inr (.of n)
    · rw [upd_ne q] at ha; exact x.nw a ha
theorem upd_id {H : Hp} {p : Addr} {u : HO} (h : H p = some u) : upd H p u = H := by
  funext a
  by_cases q : a = p
  · subst q; rw [upd_same, h]
  · rw [upd_ne q]
theorem RM.freeze (x : Gx G9 Hs G H) (h : RM K H0 Hs .new G H d v) : ∃ p u, v = .ref p ∧ H p = some u ∧ ((∃ G', Gx G9 Hs G' H ∧ Ex G G' ∧ Rep K G' d v) ∨ Mut (some u) ∧ ∀ od, ∃ G', Gx G9 Hs G' (upd H p (.frz od u)) ∧ Ex G G' ∧ Rep K G' d v) := by
  obtain ⟨p, rfl, n, g, o⟩ := h
  obtain ⟨u, hu, r⟩ := o.freeze g
  refine ⟨p, u, rfl, hu, r.imp (fun r => ⟨upd G p u, ?_, Ex.new g, r⟩) fun ⟨mu, r⟩ => ⟨mu, fun od => ⟨_, x.put n g, Ex.new g, r od⟩⟩⟩
  have := x.put (u := u) n g
  rw [upd_id hu] at this
  exact this
/-- .. a list -/
theorem RM.freezeL {ds : List PyData} (x : Gx G9 Hs G H) (h : RM K H0 Hs .new G H (.list ds) v) : ∃ G', Gx G9 Hs G' H ∧ Ex G G' ∧ Rep K G' (.list ds) v := by
  obtain ⟨p, rfl, n, g, o⟩ := h
  cases o with
  | @lst vs _ h r =>
    refine ⟨_, ?_, Ex.new g, .lst (.inl upd_same) (r.mono (Ex.new g))⟩
    have := x.put (u := .lst vs) n g
    rw [upd_id h] at this
    exact this

/-! ### slots are stored -/
theorem getD_set {σ : L2.St} {i j : Nat} {o : Option V} (hi : i < σ.length) : (σ.set i o)[j]?.getD none = if j = i then o else σ[j]?.getD none := by
  by_cases h : j = i
  · subst h; rw [if_pos rfl, List.getElem?_set_self hi]; rfl
  · rw [if_neg h, List.getElem?_set_ne (Ne.symm h)]
theorem Sok.put (s : Sok K G0 H0 G ρ σ H) {i : Nat} {t : Slot} {o : Option V} (hi : i < ρ.length) (h : SlotOk K G0.sts G0.b H0 G H t o)
    (ap : ∀ d a, t = .own d → o = some (.ref a) → ∀ j e, j ≠ i → ρ[j]? = some (.own e) → σ[j]? ≠ some (some (.ref a))) (np : ∀ d, t ≠ .pin d := by intro _ z; cases z) : Sok K G0 H0 G (ρ.set i t) (σ.set i o) H := by
  have hi' : i < σ.length := by rw [s.len]; exact hi
  refine ⟨s.gx, by rw [List.length_set, List.length_set, s.len], fun j q hj => ?_, fun j k d e a hjk h1 h2 h3 h4 => ?_, fun j d hj => ?_, s.base, s.wf⟩
  · rw [getD_set hi']
    by_cases z : j = i
    · subst z
      rw [List.getElem?_set_self hi] at hj
      cases hj
      rw [if_pos rfl]; exact h
    · rw [List.getElem?_set_ne (Ne.symm z)] at hj
      rw [if_neg z]; exact s.slot j q hj
  · by_cases z : j = i
    · subst z
      rw [List.getElem?_set_self hi] at h1
      cases h1
      rw [List.getElem?_set_self hi'] at h3
      cases h3
      rw [List.getElem?_set_ne (fun z => hjk z)] at h2 h4
      exact ap d a rfl rfl k e (fun z => hjk z.symm) h2 h4
    · rw [List.getElem?_set_ne (Ne.symm z)] at h1 h3
      by_cases y : k = i
      · subst y
        rw [List.getElem?_set_self hi] at h2
        cases h2
        rw [List.getElem?_set_self hi'] at h4
        cases h4
        exact ap e a rfl rfl j d z h1 h3
      · rw [List.getElem?_set_ne (Ne.symm y)] at h2 h4
        exact s.apart j k d e a hjk h1 h2 h3 h4
  · by_cases z : j = i
    · subst z
      rw [List.getElem?_set_self hi] at hj
      cases hj
      exact absurd rfl (np d)
    · rw [List.getElem?_set_ne (Ne.symm z)] at hj ⊢
      exact s.pins j d hj
theorem Sok.setVal (s : Sok K G0 H0 G ρ σ H) {i : Nat} (hi : i < ρ.length) (h : Rep K G d v) : Sok K G0 H0 G (ρ.set i (.val d)) (σ.set i (some v)) H :=
  s.put hi (.val h) fun _ _ e => by cases e
theorem Sok.setUn (s : Sok K G0 H0 G ρ σ H) {i : Nat} (hi : i < ρ.length) (o : Option V) : Sok K G0 H0 G (ρ.set i .un) (σ.set i o) H :=
  s.put hi .un fun _ _ e => by cases e
/-- the root of an own slot -/
theorem Sok.own (s : Sok K G0 H0 G ρ σ H) {i : Nat} (h : ρ[i]? = some (.own d)) : ∃ a, σ[i]? = some (some (.ref a)) ∧ H0 a = none ∧ G a = none ∧ Own K G H a d := by
  have q := s.slot i _ h
  generalize e : σ[i]?.getD none = w at q
  cases q with
  | own h1 h2 h3 => exact ⟨_, getD_some e, h1, h2, h3⟩
theorem Sok.setOwn (s : Sok K G0 H0 G ρ σ H) (x : Gx G H G' H') {i : Nat} (hi : i < ρ.length) (h : RM K H0 H .new G' H' d v) : Sok K G0 H0 G' (ρ.set i (.own d)) (σ.set i (some v)) H' := by
  obtain ⟨p, rfl, n, g, o⟩ := h
  refine (s.gx' x).put hi (.own (s.gx.h.back n) g o) fun d' a e1 e2 j e hj h1 h2 => ?_
  cases e2
  obtain ⟨b, k1, _, _, k4⟩ := s.own h1
  obtain ⟨u, hu⟩ := k4.there
  rw [h2] at k1; cases k1
  rw [n] at hu; cases hu
/-- an own object changes -/
theorem Sok.write (s : Sok K G0 H0 G ρ σ H) {i : Nat} {a : Addr} {o : HO} {d' : PyData} (h : ρ[i]? = some (.own d)) (ha : σ[i]? = some (some (.ref a))) (hn : H0 a = none) (hg : G a = none) (ow : Own K G (upd H a o) a d') : Sok K G0 H0 G (ρ.set i (.own d')) σ (upd H a o) := by
  have hi : i < ρ.length := (List.getElem?_eq_some_iff.mp h).1
  refine ⟨⟨s.gx.g, s.gx.h.mut hn, s.gx.gh.mut hg, s.gx.nw⟩, by rw [List.length_set]; exact s.len, fun j q hj => ?_, fun j k d1 e b hjk h1 h2 h3 h4 => ?_, fun j d hj => ?_, s.base, s.wf⟩
  · by_cases z : j = i
    · subst z
      rw [List.getElem?_set_self hi] at hj
      cases hj
      rw [ha]
      exact .own hn hg ow
    · rw [List.getElem?_set_ne (Ne.symm z)] at hj
      have q2 := s.slot j q hj
      generalize e : σ[j]?.getD none = w at q2
      cases q2 with
      | un => exact .un
      | val h => exact .val h
      | bor h => exact .bor h
      | scr h => exact .scr h
      | pin => exact .pin
      | st h => exact .st h
      | own k1 k2 k3 =>
        refine .own k1 k2 (k3.mono (Ex.refl _) ?_)
        rw [upd_ne]
        rintro rfl
        exact s.apart i j _ _ _ (fun z' => z z'.symm) h hj ha (getD_some e)
  · have own_of : ∀ {j : Nat} {e : PyData}, (ρ.set i (.own d'))[j]? = some (.own e) → ∃ e', ρ[j]? = some (.own e') := fun {j e} q => by
      by_cases z : j = i
      · subst z; exact ⟨_, h⟩
      · rw [List.getElem?_set_ne (Ne.symm z)] at q; exact ⟨_, q⟩
    obtain ⟨_, q1⟩ := own_of h1
    obtain ⟨_, q2⟩ := own_of h2
    exact s.apart j k _ _ b hjk q1 q2 h3 h4
  · by_cases z : j = i
    · subst z
      rw [List.getElem?_set_self hi] at hj; cases hj
    · rw [List.getElem?_set_ne (Ne.symm z)] at hj; exact s.pins j d hj
/-- an own object is frozen -/
theorem Sok.freezeU (s : Sok K G0 H0 G ρ σ H) {i : Nat} {a : Addr} {u : HO} (h : ρ[i]? = some (.own d)) (ha : σ[i]? = some (some (.ref a))) (hn : H0 a = none) (hg : G a = none) (r : Rep K (upd G a u) d (.ref a)) :
    Ex G (upd G a u) ∧ Sok K G0 H0 (upd G a u) (ρ.set i (.val d)) σ (upd H a u) := by
  have hi : i < ρ.length := (List.getElem?_eq_some_iff.mp h).1
  have gx : Gx G0.g H0 (upd G a u) (upd H a u) := s.gx.put hn hg
  refine ⟨Ex.new hg, gx, by rw [List.length_set]; exact s.len, fun j q hj => ?_, fun j k d1 e b hjk h1 h2 h3 h4 => ?_, fun j d hj => ?_, s.base, s.wf⟩
  · by_cases z : j = i
    · subst z
      rw [List.getElem?_set_self hi] at hj
      cases hj
      rw [ha]
      exact .val r
    · rw [List.getElem?_set_ne (Ne.symm z)] at hj
      have q2 := s.slot j q hj
      generalize e : σ[j]?.getD none = w at q2
      cases q2 with
      | un => exact .un
      | val h => exact .val (h.mono (Ex.new hg))
      | bor h => exact .bor (h.mono (Ex.new hg) (Ex.refl _))
      | scr h => exact .scr h
      | pin => exact .pin
      | st h => exact .st h
      | @own d2 c k1 k2 k3 =>
        have ne : c ≠ a := by
          rintro rfl
          exact s.apart i j _ _ _ (fun z' => z z'.symm) h hj ha (getD_some e)
        refine .own k1 ?_ (k3.mono (Ex.new hg) (upd_ne ne))
        rw [upd_ne ne]
        exact k2
  · have own_of : ∀ {j : Nat} {e : PyData}, (ρ.set i (.val d))[j]? = some (.own e) → ρ[j]? = some (.own e) := fun {j e} q => by
      by_cases z : j = i
      · subst z; rw [List.getElem?_set_self hi] at q; cases q
      · rw [List.getElem?_set_ne (Ne.symm z)] at q; exact q
    exact s.apart j k _ _ b hjk (own_of h1) (own_of h2) h3 h4
  · by_cases z : j = i
    · subst z
      rw [List.getElem?_set_self hi] at hj; cases hj
    · rw [List.getElem?_set_ne (Ne.symm z)] at hj; exact (s.pins j d hj).imp fun a h => h.imp fun vs h => h.imp fun ds ⟨p1, p2, p3, p4⟩ => ⟨p1, p2, p3, p4.mono (Ex.new hg)⟩
theorem Sok.freeze (s : Sok K G0 H0 G ρ σ H) {i : Nat} (h : ρ[i]? = some (.own d)) : ∃ a u, H a = some u ∧ ((∃ G', Ex G G' ∧ Sok K G0 H0 G' (ρ.set i (.val d)) σ H) ∨ Mut (some u) ∧ ∀ od, ∃ G', Ex G G' ∧ Sok K G0 H0 G' (ρ.set i (.val d)) σ (upd H a (.frz od u))) := by
  obtain ⟨a, ha, hn, hg, ow⟩ := s.own h
  obtain ⟨u, hu, r⟩ := ow.freeze hg
  refine ⟨a, u, hu, r.imp (fun r => ⟨upd G a u, ?_⟩) fun ⟨mu, r⟩ => ⟨mu, fun od => ⟨_, s.freezeU h ha hn hg (r od)⟩⟩⟩
  have := s.freezeU (u := u) h ha hn hg (by assumption)
  rw [upd_id hu] at this
  exact this
end
end DV

namespace DV
open PySem L2
theorem _root_.L2.PE.imp {X : Cx} {e : Expr} {t t' : TE} (h : PE X e t) (w : ∀ σ H Q, t' σ H Q → t σ H Q) : PE X e t' := ⟨fun pins s σ H Q I q => h.run pins s σ H Q I (w σ H Q q)⟩
theorem _root_.L2.PT.imp {X : Cx} {e : Expr} {t t' : TT} (h : PT X e t) (w : ∀ σ H Q, t' σ H Q → t σ H Q) : PT X e t' := ⟨fun pins s σ H Q I q => h.run pins s σ H Q I (w σ H Q q)⟩
theorem _root_.L2.PW.imp {X : Cx} {e : Expr} {t t' : TT} (h : PW X e t) (w : ∀ σ H Q, t' σ H Q → t σ H Q) : PW X e t' := ⟨fun wh pins s σ H Q I q => h.run wh pins s σ H Q I (w σ H Q q)⟩
theorem _root_.L2.PA.imp {X : Cx} {e : List Expr} {t t' : TA} (h : PA X e t) (w : ∀ σ H Q, t' σ H Q → t σ H Q) : PA X e t' := ⟨fun pos pins s σ H Q I q => h.run pos pins s σ H Q I (w σ H Q q)⟩
theorem _root_.L2.PS.imp {X : Cx} {e : Stmt} {t t' : TS} (h : PS X e t) (w : ∀ D σ H, t' D σ H → t D σ H) : PS X e t' := ⟨fun pins s σ H D I q => h.run pins s σ H D I (w D σ H q)⟩
theorem _root_.L2.PSs.imp {X : Cx} {e : List Stmt} {t t' : TS} (h : PSs X e t) (w : ∀ D σ H, t' D σ H → t D σ H) : PSs X e t' := ⟨fun pins s σ H D I q => h.run pins s σ H D I (w D σ H q)⟩

/-! ### expressions, tests, arguments -/
def tE (K : PySem.W.Frag) (m : Md) (f : SE) : TE := fun σ H Q => ∃ G0 H0 G ρ d, Sok K G0 H0 G ρ σ H ∧ f ρ = some d ∧ ∀ G' H' v, Gx G H G' H' → RM K H0 H m G' H' d v → Q v H'
def tT (K : PySem.W.Frag) (f : SB) : TT := fun σ H Q => ∃ G0 H0 G ρ d, Sok K G0 H0 G ρ σ H ∧ f ρ = some d ∧ ∀ G' H', Gx G H G' H' → Q d H'
inductive RMs (K : PySem.W.Frag) (H0 Hs G H : Hp) : List Md → List PyData → List V → Prop
  | nil : RMs K H0 Hs G H [] [] []
  | cons {m : Md} {ms : List Md} {d : PyData} {ds : List PyData} {v : V} {vs : List V} : RM K H0 Hs m G H d v → RMs K H0 Hs G H ms ds vs → RMs K H0 Hs G H (m :: ms) (d :: ds) (v :: vs)
def tA (K : PySem.W.Frag) (ms : List Md) (f : SA) : TA := fun σ H Q => ∃ G0 H0 G ρ ds, Sok K G0 H0 G ρ σ H ∧ f ρ = some ds ∧ ∀ G' H' vs, Gx G H G' H' → RMs K H0 H G' H' ms ds vs → Q vs H'
structure DX (X : Cx) (m : Md) (e : Expr) (f : SE) : Prop where
  pe : PE X e (tE X.K m f)
structure DT (X : Cx) (e : Expr) (f : SB) : Prop where
  pt : PT X e (tT X.K f)
structure DW (X : Cx) (e : Expr) (f : SB) : Prop where
  pw : PW X e (tT X.K f)
structure DA (X : Cx) (ms : List Md) (es : List Expr) (f : SA) : Prop where
  pa : PA X es (tA X.K ms f)
section
variable {K : PySem.W.Frag} {G0 H0 G H G' H' Hs : Hp} {ρ : Rho} {σ : L2.St} {d : PyData} {v : V}
theorem RMs.mono (x : Gx G H G' H') : ∀ {ms : List Md} {ds : List PyData} {vs : List V}, RMs K H0 Hs G H ms ds vs → RMs K H0 Hs G' H' ms ds vs
  | _, _, _, .nil => .nil
  | _, _, _, .cons h t => .cons (h.mono x) (t.mono x)
theorem RMs.start {H1 : Hp} (e : Ex H1 Hs) : ∀ {ms : List Md} {ds : List PyData} {vs : List V}, RMs K H0 Hs G H ms ds vs → RMs K H0 H1 G H ms ds vs
  | _, _, _, .nil => .nil
  | _, _, _, .cons h t => .cons (h.start e) (t.start e)
theorem RMs.vals : ∀ {ms : List Md} {ds : List PyData} {vs : List V}, (∀ m ∈ ms, m = .val) → RMs K H0 Hs G H ms ds vs → RepA K G ds vs
  | _, _, _, _, .nil => .nil
  | m :: _, _, _, q, .cons h t => by
    have e : m = .val := q m List.mem_cons_self
    subst e
    exact .cons h (RMs.vals (fun m hm => q m (List.mem_cons_of_mem _ hm)) t)
end
section
variable {X : Cx} {e a b c : Expr} {m : Md} {f g h : SE} {pos : Pos}

/-! ### modes -/
/-- behind it a dict may be locked for good -/
def tFz (t : TE) : TE := fun σ H Q => t σ H fun x H1 => Q x H1 ∨ ∃ d u, H1 d = some u ∧ Mut (some u) ∧ ∀ od, Q x (upd H1 d (.frz od u))
theorem pe_fz {t : TE} (h : PE X e t) : PE X e (tFz t) := ⟨fun pins s σ H Q I q => thn (h.run pins s σ H _ I q) fun u s1 ⟨x, H1, I1, rx, q1⟩ => by
  rcases q1 with q1 | ⟨d, w, hd, mu, q1⟩
  · exact ⟨x, H1, I1, rx, q1⟩
  · obtain ⟨od, I2⟩ := I1.lock hd mu
    exact ⟨x, _, I2, rx, q1 od⟩⟩
theorem d_fz (h : DX X .new e f) : DX X .val e f := ⟨(pe_fz h.pe).imp fun σ H Q ⟨G0, H0, G, ρ, d, s, ed, q⟩ => ⟨G0, H0, G, ρ, d, s, ed, fun G' H' v x r => by
  obtain ⟨p, u, e1, e2, r⟩ := RM.freeze x r
  rcases r with ⟨G2, x2, _, r2⟩ | ⟨mu, r⟩
  · exact .inl (q G2 H' v x2 r2)
  · exact .inr ⟨p, u, e2, mu, fun od => (r od).elim fun G2 z => q G2 _ v z.1 z.2.2⟩⟩⟩
theorem d_b (h : DX X m e f) (hm : m ≠ .scr := by decide) : DX X .bor e f := ⟨h.pe.imp fun σ H Q ⟨G0, H0, G, ρ, d, s, ed, q⟩ => ⟨G0, H0, G, ρ, d, s, ed, fun G' H' v x r => q G' H' v x (r.bor hm (s.gx.h.trans x.h))⟩⟩

theorem if_some {c : Prop} [Decidable c] {α : Type} {a b : α} (h : (if c then some a else none) = some b) : c ∧ a = b := by
  split at h
  · exact ⟨by assumption, Option.some.inj h⟩
  · cases h
/-! ### names and constants -/
def eV (i : Nat) : SE := fun ρ => match ρ[i]? with
  | some (.val d) => some d
  | _ => none
def eB (i : Nat) : SE := fun ρ => match ρ[i]? with
  | some (.val d) => some d
  | some (.bor d) => some d
  | some (.own d) => some d
  | some (.pin d) => some d
  | _ => none
def eK (d : PyData) : SE := fun _ => some d
theorem d_var (i : Nat) {x : Str} {pos : Pos} (hN : X.N[i]? = some x := by rfl) (hv : Vis X.env.scope x := by first | exact Or.inl rfl | exact Or.inr (Or.inl rfl) | exact Or.inr (Or.inr rfl)) (hd : (x == ("__debug__" : Str)) = false := by decide)
    (hcd : (x == ("__classdict__" : Str)) = false := by decide) : DX X .val (.Name x pos) (eV i) := ⟨(pe_var hN hv hd hcd).imp fun σ H Q ⟨G0, H0, G, ρ, d, s, ed, q⟩ => by
  unfold eV at ed
  cases e1 : ρ[i]? with
  | none => rw [e1] at ed; cases ed
  | some t =>
    rw [e1] at ed
    have h := s.slot i t e1
    cases t with
    | val d' =>
      cases ed
      generalize e2 : σ[i]?.getD none = w at h
      cases h with
      | val h => exact ⟨_, getD_some e2, q G H _ (Gx.refl s.gx.gh) h⟩
    | un => cases ed
    | bor _ => cases ed
    | scr _ => cases ed
    | st _ => cases ed
    | own _ => cases ed
    | pin _ => cases ed⟩
theorem d_varb (i : Nat) {x : Str} {pos : Pos} (hN : X.N[i]? = some x := by rfl) (hv : Vis X.env.scope x := by first | exact Or.inl rfl | exact Or.inr (Or.inl rfl) | exact Or.inr (Or.inr rfl)) (hd : (x == ("__debug__" : Str)) = false := by decide)
    (hcd : (x == ("__classdict__" : Str)) = false := by decide) : DX X .bor (.Name x pos) (eB i) := ⟨(pe_var hN hv hd hcd).imp fun σ H Q ⟨G0, H0, G, ρ, d, s, ed, q⟩ => by
  unfold eB at ed
  cases e1 : ρ[i]? with
  | none => rw [e1] at ed; cases ed
  | some t =>
    rw [e1] at ed
    have h := s.slot i t e1
    generalize e2 : σ[i]?.getD none = w at h
    cases t with
    | un => cases ed
    | val d' =>
      cases ed
      cases h with
      | val h => exact ⟨_, getD_some e2, q G H _ (Gx.refl s.gx.gh) (.val h)⟩
    | bor d' =>
      cases ed
      cases h with
      | bor h => exact ⟨_, getD_some e2, q G H _ (Gx.refl s.gx.gh) (h.mono (Ex.refl _) (s.base.trans s.gx.h))⟩
    | scr _ => cases ed
    | st _ => cases ed
    | own d' =>
      cases ed
      cases h with
      | own h1 h2 h3 => exact ⟨_, getD_some e2, q G H _ (Gx.refl s.gx.gh) h3.bor⟩
    | pin d' =>
      cases ed
      obtain ⟨a, vs, ds, p1, p2, rfl, p4⟩ := s.pins i _ e1
      exact ⟨_, p2, q G H _ (Gx.refl s.gx.gh) (.lst (s.gx.h _ _ (s.wf _ _ _ p1)) p4)⟩⟩
/-- a name that holds an argument (or a frozen thing): it stays as it is through the call -/
def eP (i : Nat) : SE := fun ρ => match ρ[i]? with
  | some (.val d) => some d
  | some (.bor d) => some d
  | some (.pin d) => some d
  | _ => none
theorem d_varp (i : Nat) {x : Str} {pos : Pos} (hN : X.N[i]? = some x := by rfl) (hv : Vis X.env.scope x := by first | exact Or.inl rfl | exact Or.inr (Or.inl rfl) | exact Or.inr (Or.inr rfl)) (hd : (x == ("__debug__" : Str)) = false := by decide)
    (hcd : (x == ("__classdict__" : Str)) = false := by decide) : DX X .par (.Name x pos) (eP i) := ⟨(pe_var hN hv hd hcd).imp fun σ H Q ⟨G0, H0, G, ρ, d, s, ed, q⟩ => by
  unfold eP at ed
  cases e1 : ρ[i]? with
  | none => rw [e1] at ed; cases ed
  | some t =>
    rw [e1] at ed
    have h := s.slot i t e1
    generalize e2 : σ[i]?.getD none = w at h
    cases t with
    | un => cases ed
    | val d' =>
      cases ed
      cases h with
      | val h => exact ⟨_, getD_some e2, q G H _ (Gx.refl s.gx.gh) (.val h)⟩
    | bor d' =>
      cases ed
      cases h with
      | bor h => exact ⟨_, getD_some e2, q G H _ (Gx.refl s.gx.gh) (h.mono (Ex.refl _) s.base)⟩
    | scr _ => cases ed
    | st _ => cases ed
    | pin d' =>
      cases ed
      obtain ⟨a, vs, ds, p1, p2, rfl, p4⟩ := s.pins i _ e1
      exact ⟨_, p2, q G H _ (Gx.refl s.gx.gh) (.lst (s.wf _ _ _ p1) p4)⟩
    | own d' => cases ed⟩
/-- the script -/
def eS (i : Nat) : SE := fun ρ => match ρ[i]? with
  | some (.scr d) => some d
  | _ => none
theorem d_vars (i : Nat) {x : Str} {pos : Pos} (hN : X.N[i]? = some x := by rfl) (hv : Vis X.env.scope x := by first | exact Or.inl rfl | exact Or.inr (Or.inl rfl) | exact Or.inr (Or.inr rfl)) (hd : (x == ("__debug__" : Str)) = false := by decide)
    (hcd : (x == ("__classdict__" : Str)) = false := by decide) : DX X .scr (.Name x pos) (eS i) := ⟨(pe_var hN hv hd hcd).imp fun σ H Q ⟨G0, H0, G, ρ, d, s, ed, q⟩ => by
  unfold eS at ed
  split at ed
  · rename_i d' h
    cases ed
    have z := s.slot i _ h
    generalize e2 : σ[i]?.getD none = w at z
    cases z with
    | scr h => exact ⟨_, getD_some e2, q G H _ (Gx.refl s.gx.gh) (h.mono (s.base.trans s.gx.h))⟩
  · cases ed⟩
theorem d_const {v : V} {d : PyData} (h : PE X e (tC v)) (r : ∀ G, Rep X.K G d v) : DX X .val e (eK d) := ⟨h.imp fun σ H Q ⟨G0, H0, G, ρ, d', s, ed, q⟩ => by
  cases ed
  exact q G H v (Gx.refl s.gx.gh) (r G)⟩
theorem d_int {i j pos} : DX X .val (.Constant (.int i) j pos) (eK (.int i)) := d_const pe_int fun _ => .int i
theorem d_bl {b j pos} : DX X .val (.Constant (.bool b) j pos) (eK (.bool b)) := d_const pe_bl fun _ => .bl b
theorem d_non {j pos} : DX X .val (.Constant .none j pos) (eK .none) := d_const pe_non fun _ => .non
theorem d_str {x j pos} : DX X .val (.Constant (.str x) j pos) (eK (.str x)) := d_const pe_str fun _ => .str x

/-! ### operators -/
/-- a partial function on data that the rule r keeps -/
def OpF (K : PySem.W.Frag) (m : Md) (r : R2) (F : PyData → PyData → Option PyData) : Prop :=
  ∀ (G H : Hp) (d1 d2 d : PyData) (x y : V) (Q : VK), Ex G H → RepB K G H d1 x → RepB K G H d2 y → F d1 d2 = some d → (∀ G' H' v, Gx G H G' H' → (∀ H0, RM K H0 H m G' H' d v) → Q v H') → r x y H Q
def UnF (K : PySem.W.Frag) (m : Md) (r : V → Hp → VK → Prop) (F : PyData → Option PyData) : Prop :=
  ∀ (G H : Hp) (d1 d : PyData) (x : V) (Q : VK), Ex G H → RepB K G H d1 x → F d1 = some d → (∀ G' H' v, Gx G H G' H' → (∀ H0, RM K H0 H m G' H' d v) → Q v H') → r x H Q
def eOp (F : PyData → PyData → Option PyData) (f g : SE) : SE := fun ρ => (f ρ).bind fun x => (g ρ).bind fun y => F x y
def eUn (F : PyData → Option PyData) (f : SE) : SE := fun ρ => (f ρ).bind F
theorem bind_some {α β : Type} {o : Option α} {k : α → Option β} {b : β} (h : o.bind k = some b) : ∃ a, o = some a ∧ k a = some b := by
  cases o with
  | none => cases h
  | some a => exact ⟨a, rfl, h⟩
/-- the two places of an operator -/
theorem op_two {r : R2} {F : PyData → PyData → Option PyData} (hF : OpF X.K m r F) {σ : L2.St} {H : Hp} {Q : VK} (q : tE X.K m (eOp F f g) σ H Q) : tOp r (tE X.K .bor f) (tE X.K .bor g) σ H Q := by
  obtain ⟨G0, H0, G, ρ, d, s, ed, q⟩ := q
  obtain ⟨d1, e1, ed⟩ := bind_some ed
  obtain ⟨d2, e2, ed⟩ := bind_some ed
  refine ⟨G0, H0, G, ρ, d1, s, e1, fun G1 H1 x gx1 r1 => ⟨G0, H0, G1, ρ, d2, s.gx' gx1, e2, fun G2 H2 y gx2 r2 => ?_⟩⟩
  have gx := gx1.trans gx2
  exact hF G2 H2 d1 d2 d x y Q gx2.gh (RM.mono (m := .bor) (H0 := H0) (Hs := H) gx2 r1) r2 ed fun G3 H3 v gx3 r3 => q G3 H3 v (gx.trans gx3) ((r3 H0).start gx.h)
theorem d_op {op : Operator} {r : R2} {F : PyData → PyData → Option PyData} (ho : OpR X (binaryOp op) r) (hF : OpF X.K m r F) (ha : DX X .bor a f) (hb : DX X .bor b g) : DX X m (.BinOp a op b pos) (eOp F f g) :=
  ⟨(pe_op ho ha.pe hb.pe).imp fun _ _ _ q => op_two hF q⟩
theorem d_un {op : UnaryOp} {r : V → Hp → VK → Prop} {F : PyData → Option PyData} (ho : UnR X (unaryOp op) r) (hF : UnF X.K m r F) (ha : DX X .bor a f) : DX X m (.UnaryOp op a pos) (eUn F f) :=
  ⟨(pe_un ho ha.pe).imp fun σ H Q ⟨G0, H0, G, ρ, d, s, ed, q⟩ => by
    obtain ⟨d1, e1, ed⟩ := bind_some ed
    exact ⟨G0, H0, G, ρ, d1, s, e1, fun G1 H1 x gx1 r1 => hF G1 H1 d1 d x Q gx1.gh r1 ed fun G3 H3 v gx3 r3 => q G3 H3 v (gx1.trans gx3) ((r3 H0).start gx1.h)⟩⟩
theorem d_cmp {op : CmpOp} {r : R2} {F : PyData → PyData → Option PyData} (ho : OpR X (compareOp op) r) (hF : OpF X.K .val r F) (ha : DX X .bor a f) (hb : DX X .bor b g) (hm : behindInMarks op b = false) : DX X .val (.Compare a [op] [b] pos) (eOp F f g) :=
  ⟨(pe_cmpR ho ha.pe hb.pe hm).imp fun _ _ _ q => op_two hF q⟩
def asB : PyData → Option Bool
  | .bool b => some b
  | _ => none
def bT (f : SE) : SB := fun ρ => (f ρ).bind asB
theorem asB_some : ∀ {d : PyData} {k : Bool}, asB d = some k → d = .bool k
  | .bool _, _, h => congrArg _ (Option.some.inj h)
theorem tTest_of {t : TE} {f : SE} (w : ∀ σ H Q, tE X.K .val f σ H Q → t σ H Q) : ∀ σ H Q, tT X.K (bT f) σ H Q → tTest t σ H Q := fun σ H Q ⟨G0, H0, G, ρ, k, s, ed, q⟩ => by
  obtain ⟨d, e1, e2⟩ := bind_some ed
  cases asB_some e2
  exact w σ H _ ⟨G0, H0, G, ρ, _, s, e1, fun G' H' v gx r => by
    cases (show Rep X.K G' (.bool k) v from r)
    exact ⟨k, rfl, q G' H' gx⟩⟩
theorem t_cmp {op : CmpOp} {r : R2} {F : PyData → PyData → Option PyData} (ho : OpR X (compareOp op) r) (hF : OpF X.K .val r F) (ha : DX X .bor a f) (hb : DX X .bor b g) (hm : behindInMarks op b = false) : DT X (.Compare a [op] [b] pos) (bT (eOp F f g)) :=
  ⟨(pt_cmpR ho ha.pe hb.pe hm).imp (tTest_of fun _ _ _ q => op_two hF q)⟩
def eChain (F F' : PyData → PyData → Option PyData) (f g h : SE) : SE := fun ρ => (f ρ).bind fun x => (g ρ).bind fun y => (F x y).bind fun z => match z with
  | .bool true => (h ρ).bind fun w => F' y w
  | .bool false => some (.bool false)
  | _ => none
theorem chain_two {r r' : R2} {F F' : PyData → PyData → Option PyData} (hF : OpF X.K .val r F) (hF' : OpF X.K .val r' F') {σ : L2.St} {H : Hp} {Q : VK} (q : tE X.K .val (eChain F F' f g h) σ H Q) : tChain r r' (tE X.K .bor f) (tE X.K .bor g) (tE X.K .bor h) σ H Q := by
  obtain ⟨G0, H0, G, ρ, d, s, ed, q⟩ := q
  obtain ⟨d1, e1, ed⟩ := bind_some ed
  obtain ⟨d2, e2, ed⟩ := bind_some ed
  obtain ⟨d3, e3, ed⟩ := bind_some ed
  refine ⟨G0, H0, G, ρ, d1, s, e1, fun G1 H1 x gx1 r1 => ⟨G0, H0, G1, ρ, d2, s.gx' gx1, e2, fun G2 H2 y gx2 r2 => ?_⟩⟩
  have gx := gx1.trans gx2
  refine hF G2 H2 d1 d2 d3 x y _ gx2.gh (RM.mono (m := .bor) (H0 := H0) (Hs := H) gx2 r1) r2 e3 fun G3 H3 v gx3 r3 => ?_
  have gx4 := gx.trans gx3
  cases d3 with
  | bool k =>
    cases (show Rep X.K G3 (.bool k) v from r3 H0)
    refine ⟨k, rfl, ?_⟩
    cases k with
    | false =>
      rw [if_neg Bool.false_ne_true]
      cases ed
      exact q G3 H3 _ gx4 (.bl false)
    | true =>
      rw [if_pos rfl]
      obtain ⟨d4, e4, ed⟩ := bind_some ed
      refine ⟨G0, H0, G3, ρ, d4, s.gx' gx4, e4, fun G5 H5 w gx5 r5 => ?_⟩
      exact hF' G5 H5 d2 d4 d y w Q gx5.gh (RM.mono (m := .bor) (H0 := H0) (Hs := H) (gx3.trans gx5) r2) r5 ed fun G6 H6 v' gx6 r6 => q G6 H6 v' ((gx4.trans gx5).trans gx6) (r6 H0)
  | _ => cases ed
theorem d_chain {op op' : CmpOp} {r r' : R2} {F F' : PyData → PyData → Option PyData} (ho : OpR X (compareOp op) r) (hF : OpF X.K .val r F) (ho' : OpR X (compareOp op') r') (hF' : OpF X.K .val r' F') (ha : DX X .bor a f) (hb : DX X .bor b g) (hc : DX X .bor c h)
    (hm : lastMarks [op, op'] [b, c] = false := by with_unfolding_all rfl) : DX X .val (.Compare a [op, op'] [b, c] pos) (eChain F F' f g h) :=
  ⟨(pe_chain ho ho' ha.pe hb.pe hc.pe hm).imp fun _ _ _ q => chain_two hF hF' q⟩
theorem t_chain {op op' : CmpOp} {r r' : R2} {F F' : PyData → PyData → Option PyData} (ho : OpR X (compareOp op) r) (hF : OpF X.K .val r F) (ho' : OpR X (compareOp op') r') (hF' : OpF X.K .val r' F') (ha : DX X .bor a f) (hb : DX X .bor b g) (hc : DX X .bor c h)
    (hm : lastMarks [op, op'] [b, c] = false := by with_unfolding_all rfl) : DT X (.Compare a [op, op'] [b, c] pos) (bT (eChain F F' f g h)) :=
  ⟨(pt_chain ho ho' ha.pe hb.pe hc.pe hm).imp (tTest_of fun _ _ _ q => chain_two hF hF' q)⟩

/-! ### truth; and, or, not -/
def truth : PyData → Option Bool
  | .none => some false
  | .bool b => some b
  | .int i => some (i != 0)
  | .str x => if x.length ≤ sizeLine then some ((x.length : Int) != 0) else none
  | .list xs => some (!xs.isEmpty)
  | .tuple xs => some (!xs.isEmpty)
  | _ => none
theorem RepA.isEmpty {K : PySem.W.Frag} {G : Hp} {ds : List PyData} {vs : List V} (r : RepA K G ds vs) : vs.isEmpty = ds.isEmpty := by cases r <;> rfl
theorem truth_ok {K : PySem.W.Frag} {G H : Hp} (e : Ex G H) {d : PyData} {x : V} {k : Bool} (r : RepB K G H d x) (h : truth d = some k) : TruV K x H k := by
  cases r with
  | lst hl ra =>
    cases h
    exact .inl ⟨_, SqL.of hl, by rw [ra.isEmpty]⟩
  | dK _ _ _ => cases h
  | dT _ _ _ => cases h
  | val r =>
    cases r with
    | non => cases h; rfl
    | bl b => cases h; rfl
    | int i => cases h; rfl
    | str y =>
      have h' : (if y.length ≤ sizeLine then some ((y.length : Int) != 0) else none) = some k := h
      obtain ⟨h1, h2⟩ := if_some h'
      exact ⟨h1, h2.symm⟩
    | lst hl ra =>
      cases h
      exact .inl ⟨_, .inl (e.rd hl), by rw [ra.isEmpty]⟩
    | tup hl ra =>
      cases h
      exact .inr (.inl ⟨_, e.sqt (sqtOf hl), by rw [ra.isEmpty]⟩)
    | dK _ _ _ => cases h
    | dT _ _ _ => cases h
def bV (f : SE) : SB := fun ρ => (f ρ).bind truth
theorem t_val (ha : DX X .bor a f) (he : ∀ whole, isTrue a X.env whole = (do let v ← whole; standAt a.pos; holding [v] (truthy v)) := by intro _; rfl) : DT X a (bV f) :=
  ⟨(pt_truth ha.pe he).imp fun σ H Q ⟨G0, H0, G, ρ, k, s, ed, q⟩ => by
    obtain ⟨d, e1, e2⟩ := bind_some ed
    exact ⟨G0, H0, G, ρ, d, s, e1, fun G' H' v gx r => ⟨k, truth_ok gx.gh r e2, q G' H' gx⟩⟩⟩
def bAnd (f g : SB) : SB := fun ρ => (f ρ).bind fun k => if k = true then g ρ else some false
def bOr (f g : SB) : SB := fun ρ => (f ρ).bind fun k => if k = true then some true else g ρ
def bNot (f : SB) : SB := fun ρ => (f ρ).map fun k => !k
variable {rest : List Expr} {t u : SB}
theorem w_and1 (ha : DT X a t) : DW X (.BoolOp .And [a] pos) t := ⟨pw_and1 ha.pt⟩
theorem w_or1 (ha : DT X a t) : DW X (.BoolOp .Or [a] pos) t := ⟨pw_or1 ha.pt⟩
theorem w_and (ha : DT X a t) (hb : DW X (.BoolOp .And (b :: rest) pos) u) : DW X (.BoolOp .And (a :: b :: rest) pos) (bAnd t u) :=
  ⟨(pw_and ha.pt hb.pw).imp fun σ H Q ⟨G0, H0, G, ρ, k, s, ed, q⟩ => by
    obtain ⟨k1, e1, e2⟩ := bind_some ed
    refine ⟨G0, H0, G, ρ, k1, s, e1, fun G' H' gx => ?_⟩
    cases k1 with
    | true => exact iteT ⟨G0, H0, G', ρ, k, s.gx' gx, e2, fun G2 H2 gx2 => q G2 H2 (gx.trans gx2)⟩
    | false => cases e2; exact iteF (q G' H' gx)⟩
theorem w_or (ha : DT X a t) (hb : DW X (.BoolOp .Or (b :: rest) pos) u) : DW X (.BoolOp .Or (a :: b :: rest) pos) (bOr t u) :=
  ⟨(pw_or ha.pt hb.pw).imp fun σ H Q ⟨G0, H0, G, ρ, k, s, ed, q⟩ => by
    obtain ⟨k1, e1, e2⟩ := bind_some ed
    refine ⟨G0, H0, G, ρ, k1, s, e1, fun G' H' gx => ?_⟩
    cases k1 with
    | false => exact iteF ⟨G0, H0, G', ρ, k, s.gx' gx, e2, fun G2 H2 gx2 => q G2 H2 (gx.trans gx2)⟩
    | true => cases e2; exact iteT (q G' H' gx)⟩
theorem t_w (h : DW X e t) : DT X e t := ⟨h.pw.pt⟩
theorem t_not (ha : DT X a t) : DT X (.UnaryOp .Not a pos) (bNot t) :=
  ⟨(pt_not ha.pt).imp fun σ H Q ⟨G0, H0, G, ρ, k, s, ed, q⟩ => by
    cases e : t ρ with
    | none => rw [bNot, e] at ed; cases ed
    | some k1 =>
      rw [bNot, e] at ed
      cases ed
      exact ⟨G0, H0, G, ρ, k1, s, e, fun G' H' gx => q G' H' gx⟩⟩
/-- .. as values -/
def eAnd (f g : SE) : SE := fun ρ => (f ρ).bind fun x => (truth x).bind fun k => if k = true then g ρ else some x
def eOr (f g : SE) : SE := fun ρ => (f ρ).bind fun x => (truth x).bind fun k => if k = true then some x else g ρ
def eNot (f : SE) : SE := fun ρ => (f ρ).bind fun x => (truth x).map fun k => .bool !k
theorem d_one {op} (h : DX X m a f) : DX X m (.BoolOp op [a] pos) f := ⟨pe_one h.pe⟩
theorem d_and (ha : DX X .val a f) (hb : DX X .val (.BoolOp .And (b :: rest) pos) g) : DX X .val (.BoolOp .And (a :: b :: rest) pos) (eAnd f g) :=
  ⟨(pe_andT ha.pe hb.pe).imp fun σ H Q ⟨G0, H0, G, ρ, d, s, ed, q⟩ => by
    obtain ⟨d1, e1, ed⟩ := bind_some ed
    obtain ⟨k1, e2, ed⟩ := bind_some ed
    refine ⟨G0, H0, G, ρ, d1, s, e1, fun G' H' v gx r => ⟨k1, truth_ok gx.gh (.val r) e2, ?_⟩⟩
    cases k1 with
    | true => exact iteT ⟨G0, H0, G', ρ, d, s.gx' gx, ed, fun G2 H2 v gx2 r => q G2 H2 v (gx.trans gx2) r⟩
    | false => cases ed; exact iteF (q G' H' v gx r)⟩
theorem d_or (ha : DX X .val a f) (hb : DX X .val (.BoolOp .Or (b :: rest) pos) g) : DX X .val (.BoolOp .Or (a :: b :: rest) pos) (eOr f g) :=
  ⟨(pe_orT ha.pe hb.pe).imp fun σ H Q ⟨G0, H0, G, ρ, d, s, ed, q⟩ => by
    obtain ⟨d1, e1, ed⟩ := bind_some ed
    obtain ⟨k1, e2, ed⟩ := bind_some ed
    refine ⟨G0, H0, G, ρ, d1, s, e1, fun G' H' v gx r => ⟨k1, truth_ok gx.gh (.val r) e2, ?_⟩⟩
    cases k1 with
    | false => exact iteF ⟨G0, H0, G', ρ, d, s.gx' gx, ed, fun G2 H2 v gx2 r => q G2 H2 v (gx.trans gx2) r⟩
    | true => cases ed; exact iteT (q G' H' v gx r)⟩
theorem d_not (ha : DX X .bor a f) : DX X .val (.UnaryOp .Not a pos) (eNot f) :=
  ⟨(pe_notT ha.pe).imp fun σ H Q ⟨G0, H0, G, ρ, d, s, ed, q⟩ => by
    obtain ⟨d1, e1, ed⟩ := bind_some ed
    cases e2 : truth d1 with
    | none => rw [e2] at ed; cases ed
    | some k =>
      rw [e2] at ed
      cases ed
      exact ⟨G0, H0, G, ρ, d1, s, e1, fun G' H' v gx r => ⟨k, truth_ok gx.gh r e2, q G' H' _ gx (.bl _)⟩⟩⟩
/-- a if t else b -/
def eIf (t : SB) (f g : SE) : SE := fun ρ => (t ρ).bind fun k => if k = true then f ρ else g ρ
theorem d_if (hc : DT X c t) (ha : DX X m a f) (hb : DX X m b g) : DX X m (.IfExp c a b pos) (eIf t f g) :=
  ⟨(pe_ifExp hc.pt ha.pe hb.pe).imp fun σ H Q ⟨G0, H0, G, ρ, d, s, ed, q⟩ => by
    obtain ⟨k1, e1, ed⟩ := bind_some ed
    refine ⟨G0, H0, G, ρ, k1, s, e1, fun G' H' gx => ?_⟩
    cases k1 with
    | true => exact iteT ⟨G0, H0, G', ρ, d, s.gx' gx, ed, fun G2 H2 v gx2 r => q G2 H2 v (gx.trans gx2) (r.start gx.h)⟩
    | false => exact iteF ⟨G0, H0, G', ρ, d, s.gx' gx, ed, fun G2 H2 v gx2 r => q G2 H2 v (gx.trans gx2) (r.start gx.h)⟩⟩

/-! ### argument lists and displays -/
def aNil : SA := fun _ => some []
def aCons (f : SE) (r : SA) : SA := fun ρ => (f ρ).bind fun d => (r ρ).bind fun ds => some (d :: ds)
variable {es : List Expr} {ms : List Md} {r : SA}
theorem a_nil : DA X [] [] aNil := ⟨pa_nil.imp fun σ H Q ⟨G0, H0, G, ρ, d, s, ed, q⟩ => by
  cases ed
  exact q G H [] (Gx.refl s.gx.gh) .nil⟩
theorem a_cons (ha : DX X m e f) (hr : DA X ms es r) (hs : starEach (e :: es) X.env = (false, eval e X.env) :: starEach es X.env := by rfl) : DA X (m :: ms) (e :: es) (aCons f r) :=
  ⟨(pa_cons ha.pe hr.pa hs).imp fun σ H Q ⟨G0, H0, G, ρ, d, s, ed, q⟩ => by
    obtain ⟨d1, e1, ed⟩ := bind_some ed
    obtain ⟨ds, e2, ed⟩ := bind_some ed
    cases ed
    refine ⟨G0, H0, G, ρ, d1, s, e1, fun G1 H1 x gx1 r1 => ⟨G0, H0, G1, ρ, ds, s.gx' gx1, e2, fun G2 H2 vs gx2 r2 => ?_⟩⟩
    exact q G2 H2 _ (gx1.trans gx2) (.cons (r1.mono gx2) (r2.start gx1.h))⟩
def eTup (r : SA) : SE := fun ρ => (r ρ).bind fun ds => if ds.length ≤ sizeLine then some (.tuple ds) else none
def eLst (r : SA) : SE := fun ρ => (r ρ).bind fun ds => if ds.length ≤ sizeLine then some (.list ds) else none
theorem d_tup {x1} (h : DA X ms es r) (hm : ∀ m ∈ ms, m = .val) : DX X .val (.Tuple es x1 pos) (eTup r) :=
  ⟨(pe_tup h.pa).imp fun σ H Q ⟨G0, H0, G, ρ, d, s, ed, q⟩ => by
    obtain ⟨ds, e1, ed⟩ := bind_some ed
    obtain ⟨hl, rfl⟩ := if_some ed
    refine ⟨G0, H0, G, ρ, ds, s, e1, fun G1 H1 vs gx1 r1 => ?_⟩
    have ra := r1.vals hm
    refine ⟨by rw [← ra.len]; exact hl, fun p np => ?_⟩
    exact q _ _ _ (gx1.trans (Gx.new gx1.gh np)) (.tup upd_same (ra.mono (Ex.new (gx1.gh.back np))))⟩
theorem d_lst (h : DA X ms es r) (hm : ∀ m ∈ ms, m = .val) : DX X .new (.List es pos) (eLst r) :=
  ⟨(pe_lst h.pa).imp fun σ H Q ⟨G0, H0, G, ρ, d, s, ed, q⟩ => by
    obtain ⟨ds, e1, ed⟩ := bind_some ed
    obtain ⟨hl, rfl⟩ := if_some ed
    refine ⟨G0, H0, G, ρ, ds, s, e1, fun G1 H1 vs gx1 r1 => ?_⟩
    have ra := r1.vals hm
    refine ⟨by rw [← ra.len]; exact hl, fun p np => ?_⟩
    exact q _ _ _ (gx1.trans (Gx.mine gx1.gh np)) ⟨p, rfl, gx1.h.back np, gx1.gh.back np, .lst upd_same ra⟩⟩
end
end DV

namespace DV
open PySem L2

theorem ite_some {c : Prop} [Decidable c] {α : Type} {a : Option α} {b : α} (h : (if c then a else none) = some b) : c ∧ a = some b := by
  split at h
  · exact ⟨by assumption, h⟩
  · cases h
/-! ### what is walked -/
abbrev SI := Rho → Option (List PyData)
structure WalkD (K : PySem.W.Frag) (B G : Hp) (J : It) (ds : List PyData) : Prop where
  goes : ∀ i G2 H2, i < ds.length → Ex G G2 → Ex G2 H2 → Ex B H2 → J.go i H2
  stops : ∀ G2 H2, Ex G G2 → Ex G2 H2 → Ex B H2 → J.stop ds.length H2
  yields : ∀ i d G2 H2 x H3, ds[i]? = some d → Ex G G2 → Ex G2 H2 → Ex B H2 → J.yld i H2 x H3 → ∃ G3, Gx G2 H2 G3 H3 ∧ Rep K G3 d x
def tI (K : PySem.W.Frag) (wide : Bool) (f : SI) : TI := fun σ H R => ∃ G0 H0 G ρ ds, Sok K G0 H0 G ρ σ H ∧ f ρ = some ds ∧ ∀ G' H' J, Gx G H G' H' → WalkD K (if wide = true then H' else H0) G' J ds → R J H'
structure DI (X : Cx) (tg iter : Expr) (wide : Bool) (f : SI) : Prop where
  pi : PI X tg iter (tI X.K wide f)
theorem _root_.L2.PI.imp {X : Cx} {tg e : Expr} {t t' : TI} (h : PI X tg e t) (w : ∀ σ H Q, t' σ H Q → t σ H Q) : PI X tg e t' := ⟨fun pins s σ H Q I q => h.run pins s σ H Q I (w σ H Q q)⟩
def itemsOf : PyData → Option (List PyData)
  | .list ds => some ds
  | .tuple ds => some ds
  | .str z => some (z.cps.toList.map fun c => .str ⟨#[c]⟩)
  | _ => none
/-- a list, a tuple or a text, by what it is -/
def iAny (K : PySem.W.Frag) (te : TE) : TI := fun σ H R => te σ H fun x H1 =>
  (∃ a, x = .ref a ∧ (∃ xs, SqL K H1 a xs) ∧ R (Itl K a) H1) ∨ (∃ a, x = .ref a ∧ (∃ xs, SqT K H1 a xs) ∧ R (Itt K a) H1) ∨ ∃ z, x = .str z ∧ R (Its z) H1
theorem pi_any {X : Cx} {tg l : Expr} {tl : TE} (hl : PE X l tl) : PI X tg l (iAny X.K tl) := by
  refine ⟨fun pins s σ H R I h => ?_⟩
  refine thn (hl.run pins s σ H _ I h) fun v s1 ⟨x, H1, I1, r1, q1⟩ => ?_
  rcases q1 with ⟨a, e, ⟨xs, hq⟩, q⟩ | ⟨a, e, ⟨xs, hq⟩, q⟩ | ⟨z, e, q⟩
  · subst e
    cases r1
    obtain ⟨its, rv, p, hz⟩ := I1.list hq
    refine wpAny_pyIter_list p.isList ?_
    refine ⟨s1.heap.objs.size, [s1.heap.objs.size], _, _, H1, rfl, I1.kept (t' := s1.toks) fun b o e => Heap.get?_push_of_some _ e, turn_list a _, ⟨_, Heap.get?_push_size _ rfl, rfl, rfl⟩, fun b hb => ?_, q⟩
    have e : b = s1.heap.objs.size := by simpa using hb
    subst e
    exact I1.fpOk (Nat.le_refl _) (I1.hok.fresh (Nat.le_refl _))
  · subst e
    cases r1
    obtain ⟨its, rv, p, hz⟩ := I1.tuple hq
    refine wpAny_pyIter_tuple (show s1.heap.IsTuple a its.toArray from p) ?_
    refine ⟨s1.heap.objs.size, [s1.heap.objs.size], _, _, H1, rfl, I1.kept (t' := s1.toks) fun b o e => Heap.get?_push_of_some _ e, turn_tuple a _, ⟨_, Heap.get?_push_size _ rfl, rfl, rfl⟩, fun b hb => ?_, q⟩
    have e : b = s1.heap.objs.size := by simpa using hb
    subst e
    exact I1.fpOk (Nat.le_refl _) (I1.hok.fresh (Nat.le_refl _))
  · subst e
    obtain ⟨t, rfl⟩ := r1
    cases ha : z.cps.all (· < 128)
    · exact wpAny_pyIter_wide ha (pi_one (tk := s1.toks) I1 _ (turn_str _ z t "str_iterator" (.inr rfl)) ⟨_, Heap.get?_push_size _ rfl, rfl, rfl⟩ q)
    · exact wpAny_pyIter_ascii ha (pi_one (tk := s1.toks) I1 _ (turn_str _ z t "str_ascii_iterator" (.inl rfl)) ⟨_, Heap.get?_push_size _ rfl, rfl, rfl⟩ q)
section
variable {K : PySem.W.Frag} {B G0 H0 G H G' H' : Hp} {ρ : Rho} {σ : L2.St} {d : PyData} {ds : List PyData} {vs : List V} {a : Addr}
theorem WalkD.list (st : ∀ H2, Ex G H2 → Ex B H2 → SqL K H2 a vs) (r : RepA K G ds vs) : WalkD K B G (Itl K a) ds where
  goes := fun i G2 H2 hi g1 g2 b => by
    have q := st H2 (g1.trans g2) b
    rw [r.len] at hi
    exact ⟨vs, _, q, List.getElem?_eq_getElem hi⟩
  stops := fun G2 H2 g1 g2 b => ⟨vs, st H2 (g1.trans g2) b, by rw [r.len]; exact Nat.le_refl _⟩
  yields := fun i d G2 H2 x H3 hi g1 g2 b y => by
    obtain ⟨rfl, hy⟩ := y
    obtain ⟨v, h1, h2⟩ := r.get hi
    have := hy vs (st _ (g1.trans g2) b)
    rw [h1] at this; cases this
    exact ⟨G2, Gx.refl g2, h2.mono g1⟩
theorem WalkD.tup (st : ∀ H2, Ex G H2 → Ex B H2 → SqT K H2 a vs) (r : RepA K G ds vs) : WalkD K B G (Itt K a) ds where
  goes := fun i G2 H2 hi g1 g2 b => by
    have q := st H2 (g1.trans g2) b
    rw [r.len] at hi
    exact ⟨vs, _, q, List.getElem?_eq_getElem hi⟩
  stops := fun G2 H2 g1 g2 b => ⟨vs, st H2 (g1.trans g2) b, by rw [r.len]; exact Nat.le_refl _⟩
  yields := fun i d G2 H2 x H3 hi g1 g2 b y => by
    obtain ⟨rfl, hy⟩ := y
    obtain ⟨v, h1, h2⟩ := r.get hi
    have := hy vs (st _ (g1.trans g2) b)
    rw [h1] at this; cases this
    exact ⟨G2, Gx.refl g2, h2.mono g1⟩
theorem WalkD.str {z : Str} : WalkD K B G (Its z) (z.cps.toList.map fun c => .str ⟨#[c]⟩) where
  goes := fun i G2 H2 hi g1 g2 b => by
    show i < z.cps.size
    simpa using hi
  stops := fun G2 H2 g1 g2 b => by
    show z.cps.size ≤ _
    simp
  yields := fun i d G2 H2 x H3 hi g1 g2 b y => by
    obtain ⟨rfl, c, hc, rfl⟩ := y
    rw [List.getElem?_map, Array.getElem?_toList, hc] at hi
    cases hi
    exact ⟨G2, Gx.refl g2, .str _⟩
/-- the pairs that enumerate gives -/
def enumD : Nat → List PyData → List PyData
  | _, [] => []
  | n, d :: ds => .tuple [.int (n : Nat), d] :: enumD (n + 1) ds
theorem enumD_len : ∀ (n : Nat) (ds : List PyData), (enumD n ds).length = ds.length
  | _, [] => rfl
  | n, _ :: ds => congrArg (· + 1) (enumD_len (n + 1) ds)
theorem enumD_get : ∀ (n : Nat) (ds : List PyData) (i : Nat), (enumD n ds)[i]? = ds[i]?.map fun d => .tuple [.int ((n + i : Nat) : Int), d]
  | _, [], i => by simp [enumD]
  | n, d :: ds, 0 => by simp [enumD]
  | n, d :: ds, i + 1 => by
    rw [show (enumD n (d :: ds))[i + 1]? = (enumD (n + 1) ds)[i]? from rfl, enumD_get (n + 1) ds i, show (d :: ds)[i + 1]? = ds[i]? from rfl, show n + 1 + i = n + (i + 1) by omega]
theorem WalkD.enum (st : ∀ H2, Ex G H2 → Ex B H2 → SqL K H2 a vs) (r : RepA K G ds vs) : WalkD K B G (Ite K a) (enumD 0 ds) where
  goes := fun i G2 H2 hi g1 g2 b => by
    rw [enumD_len, r.len] at hi
    exact ⟨vs, _, st H2 (g1.trans g2) b, List.getElem?_eq_getElem hi⟩
  stops := fun G2 H2 g1 g2 b => ⟨vs, st H2 (g1.trans g2) b, by rw [enumD_len, r.len]; exact Nat.le_refl _⟩
  yields := fun i d G2 H2 x H3 hi g1 g2 b y => by
    obtain ⟨T, x', rfl, nT, rfl, hy⟩ := y
    rw [enumD_get] at hi
    cases e : ds[i]? with
    | none => rw [e] at hi; cases hi
    | some d' =>
      rw [e] at hi
      cases hi
      obtain ⟨v, h1, h2⟩ := r.get e
      have := hy vs (st _ (g1.trans g2) b)
      rw [h1] at this; cases this
      refine ⟨_, Gx.new g2 nT, .tup upd_same (.cons ?_ (.cons (h2.mono (g1.trans (Ex.new (g2.back nT)))) .nil))⟩
      rw [Nat.zero_add]; exact .int _
def zipD : List PyData → List PyData → List PyData
  | x :: xs, y :: ys => .tuple [x, y] :: zipD xs ys
  | _, _ => []
theorem zipD_len : ∀ xs ys : List PyData, (zipD xs ys).length = min xs.length ys.length
  | [], _ => by simp [zipD]
  | _ :: _, [] => by simp [zipD]
  | x :: xs, y :: ys => by
    show (zipD xs ys).length + 1 = min (xs.length + 1) (ys.length + 1)
    rw [zipD_len xs ys]; omega
theorem zipD_get : ∀ (xs ys : List PyData) (i : Nat) (d : PyData), (zipD xs ys)[i]? = some d → ∃ x y, xs[i]? = some x ∧ ys[i]? = some y ∧ d = .tuple [x, y]
  | [], _, i, d, h => by simp [zipD] at h
  | _ :: _, [], i, d, h => by simp [zipD] at h
  | x :: xs, y :: ys, 0, d, h => ⟨x, y, rfl, rfl, (Option.some.inj h).symm⟩
  | x :: xs, y :: ys, i + 1, d, h => zipD_get xs ys i d h
theorem WalkD.zip {a b : Addr} {us : List V} {es : List PyData} (st : ∀ H2, Ex G H2 → Ex B H2 → SqL K H2 a vs) (st2 : ∀ H2, Ex G H2 → Ex B H2 → SqL K H2 b us) (r : RepA K G ds vs) (r2 : RepA K G es us) : WalkD K B G (Itz K a b) (zipD ds es) where
  goes := fun i G2 H2 hi g1 g2 b => by
    rw [zipD_len, r.len, r2.len] at hi
    exact ⟨vs, us, _, _, st H2 (g1.trans g2) b, st2 H2 (g1.trans g2) b, List.getElem?_eq_getElem (by omega), List.getElem?_eq_getElem (by omega)⟩
  stops := fun G2 H2 g1 g2 b => ⟨vs, us, st H2 (g1.trans g2) b, st2 H2 (g1.trans g2) b, by rw [zipD_len, r.len, r2.len]; omega⟩
  yields := fun i d G2 H2 x H3 hi g1 g2 b y => by
    obtain ⟨T, x', y', rfl, nT, rfl, hx, hy⟩ := y
    obtain ⟨d1, d2, e1, e2, rfl⟩ := zipD_get _ _ _ _ hi
    obtain ⟨v, h1, h2⟩ := r.get e1
    obtain ⟨u, k1, k2⟩ := r2.get e2
    have := hx vs (st _ (g1.trans g2) b)
    rw [h1] at this; cases this
    have := hy us (st2 _ (g1.trans g2) b)
    rw [k1] at this; cases this
    exact ⟨_, Gx.new g2 nT, .tup upd_same (.cons (h2.mono (g1.trans (Ex.new (g2.back nT)))) (.cons (k2.mono (g1.trans (Ex.new (g2.back nT)))) .nil))⟩
def rangeD (lo : Int) (n : Nat) : List PyData := (List.range n).map fun i => .int (lo + (i : Nat))
theorem rangeD_len (lo : Int) (n : Nat) : (rangeD lo n).length = n := by simp [rangeD]
theorem WalkD.range {lo : Int} {n : Nat} : WalkD K B G (Itr lo n) (rangeD lo n) where
  goes := fun i G2 H2 hi _ _ _ => by rw [rangeD_len] at hi; exact hi
  stops := fun G2 H2 _ _ _ => by rw [rangeD_len]; exact Nat.le_refl _
  yields := fun i d G2 H2 x H3 hi _ g2 _ y => by
    obtain ⟨rfl, rfl⟩ := y
    unfold rangeD at hi
    rw [List.getElem?_map] at hi
    cases e : (List.range n)[i]? with
    | none => rw [e] at hi; cases hi
    | some j =>
      rw [e] at hi
      cases hi
      have : j = i := by
        obtain ⟨h1, h2⟩ := List.getElem?_eq_some_iff.mp e
        rw [← h2]; simp
      subst this
      exact ⟨G2, Gx.refl g2, .int _⟩
def rangeC (lo c : Int) (n : Nat) : List PyData := (List.range n).map fun i => .int (lo + (i : Nat) * c)
theorem rangeC_len (lo c : Int) (n : Nat) : (rangeC lo c n).length = n := by simp [rangeC]
theorem WalkD.rangeC {lo c : Int} {n : Nat} : WalkD K B G (Itc lo c n) (rangeC lo c n) where
  goes := fun i G2 H2 hi _ _ _ => by rw [rangeC_len] at hi; exact hi
  stops := fun G2 H2 _ _ _ => by rw [rangeC_len]; exact Nat.le_refl _
  yields := fun i d G2 H2 x H3 hi _ g2 _ y => by
    obtain ⟨rfl, rfl⟩ := y
    unfold DV.rangeC at hi
    rw [List.getElem?_map] at hi
    cases e : (List.range n)[i]? with
    | none => rw [e] at hi; cases hi
    | some j =>
      rw [e] at hi
      cases hi
      have : j = i := by
        obtain ⟨h1, h2⟩ := List.getElem?_eq_some_iff.mp e
        rw [← h2]; simp
      subst this
      exact ⟨G2, Gx.refl g2, .int _⟩
end
/-- reading a list, whatever mode -/
theorem RepB.seq {K : PySem.W.Frag} {G B : Hp} {ds : List PyData} {v : V} (h : RepB K G B (.list ds) v) : ∃ a vs, v = .ref a ∧ (∀ H2, Ex G H2 → Ex B H2 → Rd H2 a (.lst vs)) ∧ RepA K G ds vs := by
  cases h with
  | val h =>
    cases h with
    | lst h r => exact ⟨_, _, rfl, fun H2 g _ => g.rd h, r⟩
  | lst h r => exact ⟨_, _, rfl, fun H2 _ b => .inl (b _ _ h), r⟩
theorem RepB.seqT {K : PySem.W.Frag} {G B : Hp} {ds : List PyData} {v : V} (h : RepB K G B (.tuple ds) v) : ∃ a vs, v = .ref a ∧ (∀ H2, Ex G H2 → SqT K H2 a vs) ∧ RepA K G ds vs := by
  cases h with
  | val h =>
    cases h with
    | tup h r => exact ⟨_, _, rfl, fun H2 g => g.sqt (sqtOf h), r⟩
theorem RepB.str {K : PySem.W.Frag} {G B : Hp} {z : Str} {v : V} (h : RepB K G B (.str z) v) : v = .str z := by
  cases h with
  | val h => cases h; rfl
theorem RepB.int {K : PySem.W.Frag} {G B : Hp} {z : Int} {v : V} (h : RepB K G B (.int z) v) : v = .int z := by
  cases h with
  | val h => cases h; rfl
theorem RepB.bl {K : PySem.W.Frag} {G B : Hp} {z : Bool} {v : V} (h : RepB K G B (.bool z) v) : v = .bl z := by
  cases h with
  | val h => cases h; rfl
theorem RepB.non {K : PySem.W.Frag} {G B : Hp} {v : V} (h : RepB K G B .none v) : v = .non := by
  cases h with
  | val h => cases h; rfl
section
variable {X : Cx} {tg e a b c : Expr} {f g h : SE} {pos p tpos : Pos} {elts : List Expr} {kk : Nat}
def sSeq (f : SE) : SI := fun ρ => (f ρ).bind itemsOf
theorem any_of {K : PySem.W.Frag} {B G' H' : Hp} {d : PyData} {ds : List PyData} {v : V} {R : It → Hp → Prop} (gh : Ex G' H') (bh : Ex B H') (r : RepB K G' B d v) (e2 : itemsOf d = some ds)
    (q : ∀ J, WalkD K B G' J ds → R J H') : (∃ a, v = .ref a ∧ (∃ xs, SqL K H' a xs) ∧ R (Itl K a) H') ∨ (∃ a, v = .ref a ∧ (∃ xs, SqT K H' a xs) ∧ R (Itt K a) H') ∨ ∃ z, v = .str z ∧ R (Its z) H' := by
  cases d with
  | list l =>
    cases e2
    obtain ⟨a, vs, rfl, st, ra⟩ := r.seq
    exact .inl ⟨a, rfl, ⟨vs, .inl (st _ gh bh)⟩, q _ (WalkD.list (fun H2 x y => .inl (st H2 x y)) ra)⟩
  | tuple l =>
    cases e2
    obtain ⟨a, vs, rfl, st, ra⟩ := r.seqT
    exact .inr (.inl ⟨a, rfl, ⟨vs, st _ gh⟩, q _ (WalkD.tup (fun H2 g _ => st H2 g) ra)⟩)
  | str z =>
    cases e2
    cases r.str
    exact .inr (.inr ⟨z, rfl, q _ WalkD.str⟩)
  | _ => cases e2
theorem i_val (ha : DX X .val e f) : DI X tg e false (sSeq f) := ⟨(pi_any ha.pe).imp fun σ H R ⟨G0, H0, G, ρ, ds, s, ed, q⟩ => by
  obtain ⟨d, e1, e2⟩ := bind_some ed
  exact ⟨G0, H0, G, ρ, d, s, e1, fun G' H' v gx r => any_of gx.gh (s.gx.h.trans gx.h) (.val r) e2 fun J w => q G' H' J gx w⟩⟩
theorem i_par (ha : DX X .par e f) : DI X tg e false (sSeq f) := ⟨(pi_any ha.pe).imp fun σ H R ⟨G0, H0, G, ρ, ds, s, ed, q⟩ => by
  obtain ⟨d, e1, e2⟩ := bind_some ed
  exact ⟨G0, H0, G, ρ, d, s, e1, fun G' H' v gx r => any_of gx.gh (s.gx.h.trans gx.h) r e2 fun J w => q G' H' J gx w⟩⟩
theorem i_bor (ha : DX X .bor e f) : DI X tg e true (sSeq f) := ⟨(pi_any ha.pe).imp fun σ H R ⟨G0, H0, G, ρ, ds, s, ed, q⟩ => by
  obtain ⟨d, e1, e2⟩ := bind_some ed
  exact ⟨G0, H0, G, ρ, d, s, e1, fun G' H' v gx r => any_of gx.gh (Ex.refl _) r e2 fun J w => q G' H' J gx w⟩⟩
/-- for over the script -/
theorem i_scr (ha : DX X .scr e f) : DI X tg e true (sSeq f) := ⟨(pi_any ha.pe).imp fun σ H R ⟨G0, H0, G, ρ, ds, s, ed, q⟩ => by
  obtain ⟨d, e1, e2⟩ := bind_some ed
  refine ⟨G0, H0, G, ρ, d, s, e1, fun G' H' v gx r => ?_⟩
  obtain ⟨a, ns, rfl, rfl, hq⟩ := r
  cases e2
  exact .inl ⟨a, rfl, ⟨_, hq⟩, q G' H' _ gx (WalkD.list (fun H2 _ b => b.sql hq) (RepA.ints ns))⟩⟩
def rng1 : List PyData → Option (List PyData)
  | [.int j] => if -(2 ^ 62) ≤ j ∧ j < 2 ^ 62 then some (rangeD 0 j.toNat) else none
  | _ => none
def rng2 : List PyData → Option (List PyData)
  | [.int i, .int j] => if -(2 ^ 62) ≤ i ∧ i < 2 ^ 62 ∧ -(2 ^ 62) ≤ j ∧ j < 2 ^ 62 then some (rangeD i (j - i).toNat) else none
  | _ => none
def sArgs (F : List PyData → Option (List PyData)) (r : SA) : SI := fun ρ => (r ρ).bind F
theorem RM.stay {K : PySem.W.Frag} {H0 Hs G H : Hp} {m : Md} {d : PyData} {v : V} (hmd : m = .val ∨ m = .par) (h : RM K H0 Hs m G H d v) : RepB K G H0 d v := by
  rcases hmd with rfl | rfl
  · exact .val h
  · exact h
theorem RMs.one {K : PySem.W.Frag} {H0 Hs G H : Hp} {m : Md} {d : PyData} {vs : List V} (h : RMs K H0 Hs G H [m] [d] vs) : ∃ v, vs = [v] ∧ RM K H0 Hs m G H d v := by
  cases h with
  | cons h t => cases t; exact ⟨_, rfl, h⟩
theorem RMs.two {K : PySem.W.Frag} {H0 Hs G H : Hp} {m m' : Md} {d d' : PyData} {vs : List V} (h : RMs K H0 Hs G H [m, m'] [d, d'] vs) : ∃ v v', vs = [v, v'] ∧ RM K H0 Hs m G H d v ∧ RM K H0 Hs m' G H d' v' := by
  cases h with
  | cons h t =>
    obtain ⟨w, rfl, h2⟩ := t.one
    exact ⟨_, _, rfl, h, h2⟩
theorem RMs.three {K : PySem.W.Frag} {H0 Hs G H : Hp} {m m' m2 : Md} {d d' d2 : PyData} {vs : List V} (h : RMs K H0 Hs G H [m, m', m2] [d, d', d2] vs) : ∃ v v' v2, vs = [v, v', v2] ∧ RM K H0 Hs m G H d v ∧ RM K H0 Hs m' G H d' v' ∧ RM K H0 Hs m2 G H d2 v2 := by
  cases h with
  | cons h t =>
    obtain ⟨w, w2, rfl, h2, h3⟩ := t.two
    exact ⟨_, _, _, rfl, h, h2, h3⟩
theorem i_range1 {r : SA} (hg : Gl X "range") (hm : X.mg "range" = none) (ha : DA X [.val] [a] r) (hs : starEach [a] X.env = [(false, eval a X.env)] := by rfl) : DI X tg (.Call (.Name "range" p) [a] [] pos) false (sArgs rng1 r) :=
  ⟨(pi_range1 hg hm ha.pa hs).imp fun σ H R ⟨G0, H0, G, ρ, ds, s, ed, q⟩ => by
    obtain ⟨l, e1, e2⟩ := bind_some ed
    refine ⟨G0, H0, G, ρ, l, s, e1, fun G' H' vs gx r => ?_⟩
    unfold rng1 at e2
    split at e2
    · obtain ⟨⟨h1, h2⟩, rfl⟩ := if_some e2
      obtain ⟨v, rfl, r1⟩ := r.one
      cases (show Rep X.K G' (.int _) v from r1)
      exact ⟨_, rfl, h1, h2, q G' H' _ gx WalkD.range⟩
    · cases e2⟩
theorem i_range2 {r : SA} (hg : Gl X "range") (hm : X.mg "range" = none) (ha : DA X [.val, .val] [a, b] r) (hs : starEach [a, b] X.env = [(false, eval a X.env), (false, eval b X.env)] := by rfl) (hs2 : starEach [b] X.env = [(false, eval b X.env)] := by rfl) :
    DI X tg (.Call (.Name "range" p) [a, b] [] pos) false (sArgs rng2 r) :=
  ⟨(pi_range2 hg hm ha.pa hs hs2).imp fun σ H R ⟨G0, H0, G, ρ, ds, s, ed, q⟩ => by
    obtain ⟨l, e1, e2⟩ := bind_some ed
    refine ⟨G0, H0, G, ρ, l, s, e1, fun G' H' vs gx r => ?_⟩
    unfold rng2 at e2
    split at e2
    · obtain ⟨h1, rfl⟩ := if_some e2
      obtain ⟨v, w, rfl, r1, r2⟩ := r.two
      cases (show Rep X.K G' (.int _) v from r1)
      cases (show Rep X.K G' (.int _) w from r2)
      exact ⟨_, _, rfl, h1, q G' H' _ gx WalkD.range⟩
    · cases e2⟩
def enumI : List PyData → Option (List PyData)
  | [.list l] => some (enumD 0 l)
  | _ => none
def zipI : List PyData → Option (List PyData)
  | [.list l, .list m] => some (zipD l m)
  | _ => none
theorem i_enum {m : Md} {r : SA} (hg : Gl X "enumerate") (hm : X.mg "enumerate" = none) (ha : DA X [m] [e] r) (hmd : m = .val ∨ m = .par := by first | exact Or.inl rfl | exact Or.inr rfl) (hs : starEach [e] X.env = [(false, eval e X.env)] := by rfl) :
    DI X (.Tuple elts kk tpos) (.Call (.Name "enumerate" p) [e] [] pos) false (sArgs enumI r) :=
  ⟨(pi_enum hg hm ha.pa hs).imp fun σ H R ⟨G0, H0, G, ρ, ds, s, ed, q⟩ => by
    obtain ⟨l, e1, e2⟩ := bind_some ed
    refine ⟨G0, H0, G, ρ, l, s, e1, fun G' H' vs gx r => ?_⟩
    unfold enumI at e2
    split at e2
    · cases e2
      obtain ⟨v, rfl, r1⟩ := r.one
      obtain ⟨a, us, rfl, st, ra⟩ := (r1.stay hmd).seq
      exact ⟨a, us, rfl, .inl (st _ gx.gh (s.gx.h.trans gx.h)), q G' H' _ gx (WalkD.enum (fun H2 x y => .inl (st H2 x y)) ra)⟩
    · cases e2⟩
theorem i_zip {m m' : Md} {r : SA} (hg : Gl X "zip") (hm : X.mg "zip" = none) (ha : DA X [m, m'] [e, a] r) (hmd : m = .val ∨ m = .par := by first | exact Or.inl rfl | exact Or.inr rfl) (hmd' : m' = .val ∨ m' = .par := by first | exact Or.inl rfl | exact Or.inr rfl)
    (hs : starEach [e, a] X.env = (false, eval e X.env) :: starEach [a] X.env := by rfl) (hpl : (backTo pos (starEach [a] X.env)).any (·.1) = false := by rfl) :
    DI X (.Tuple elts kk tpos) (.Call (.Name "zip" p) [e, a] [] pos) false (sArgs zipI r) :=
  ⟨(pi_zip hg hm ha.pa hs hpl).imp fun σ H R ⟨G0, H0, G, ρ, ds, s, ed, q⟩ => by
    obtain ⟨l, e1, e2⟩ := bind_some ed
    refine ⟨G0, H0, G, ρ, l, s, e1, fun G' H' vs gx r => ?_⟩
    unfold zipI at e2
    split at e2
    · cases e2
      obtain ⟨v, w, rfl, r1, r2⟩ := r.two
      obtain ⟨a, us, rfl, st, ra⟩ := (r1.stay hmd).seq
      obtain ⟨b, ws, rfl, st2, rb⟩ := (r2.stay hmd').seq
      exact ⟨a, b, us, ws, rfl, .inl (st _ gx.gh (s.gx.h.trans gx.h)), .inl (st2 _ gx.gh (s.gx.h.trans gx.h)), q G' H' _ gx (WalkD.zip (fun H2 x y => .inl (st H2 x y)) (fun H2 x y => .inl (st2 H2 x y)) ra rb)⟩
    · cases e2⟩

/-! ### targets -/
abbrev SG := PyData → Rho → Option Rho
abbrev SGs := List PyData → Rho → Option Rho
def tG (K : PySem.W.Frag) (g : SG) : TG := fun v σ H Q => ∃ G0 H0 G ρ d ρ', Sok K G0 H0 G ρ σ H ∧ Rep K G d v ∧ g d ρ = some ρ' ∧ ∀ σ', Sok K G0 H0 G ρ' σ' H → Q σ' H
def tGs (K : PySem.W.Frag) (g : SGs) : TGs := fun vs σ H Q => ∃ G0 H0 G ρ ds ρ', Sok K G0 H0 G ρ σ H ∧ RepA K G ds vs ∧ g ds ρ = some ρ' ∧ ∀ σ', Sok K G0 H0 G ρ' σ' H → Q σ' H
structure DG (X : Cx) (tg : Expr) (g : SG) : Prop where
  pg : PG X tg (tG X.K g)
structure DGs (X : Cx) (tg : List Expr) (g : SGs) : Prop where
  pgs : PGs X tg (tGs X.K g)
theorem _root_.L2.PG.imp {e : Expr} {t t' : TG} (h : PG X e t) (w : ∀ v σ H Q, t' v σ H Q → t v σ H Q) : PG X e t' := ⟨fun pins s σ H v u Q I r q => h.run pins s σ H v u Q I r (w v σ H Q q)⟩
theorem _root_.L2.PGs.imp {e : List Expr} {t t' : TGs} (h : PGs X e t) (w : ∀ v σ H Q, t' v σ H Q → t v σ H Q) : PGs X e t' := ⟨fun pins s σ H v u Q I r q => h.run pins s σ H v u Q I r (w v σ H Q q)⟩
def gV (i : Nat) : SG := fun d ρ => if i < ρ.length then some (ρ.set i (.val d)) else none
def gsNil : SGs := fun ds ρ => match ds with
  | [] => some ρ
  | _ => none
def gsCons (g : SG) (r : SGs) : SGs := fun ds ρ => match ds with
  | d :: ds => (g d ρ).bind fun ρ' => r ds ρ'
  | [] => none
def gT (n : Nat) (r : SGs) : SG := fun d ρ => match d with
  | .tuple ds => if ds.length = n then r ds ρ else none
  | _ => none
variable {x : Str}
theorem g_name (i : Nat) (hN : X.N.Nodup) (hi : X.N[i]? = some x := by rfl) (hx : Loc X.env.scope x := by first | exact Or.inl rfl | exact Or.inr rfl) (hf : X.fn x = true ∨ X.env.scope.names.lookup x = some .local := by first | exact .inl rfl | exact .inr rfl | assumption) : DG X (.Name x pos) (gV i) :=
  ⟨(pg_name hN hi hx hf).imp fun v σ H Q ⟨G0, H0, G, ρ, d, ρ', s, r, e, q⟩ => by
    obtain ⟨hl, rfl⟩ := if_some e
    exact q _ (s.setVal hl r)⟩
theorem gs_nil : DGs X [] gsNil := ⟨pgs_nil.imp fun vs σ H Q ⟨G0, H0, G, ρ, d, ρ', s, r, e, q⟩ => by
  unfold gsNil at e
  split at e
  · cases e; cases r; exact ⟨rfl, q _ s⟩
  · cases e⟩
theorem gs_cons {es : List Expr} {g : SG} {r : SGs} (h1 : DG X e g) (h2 : DGs X es r) (hs : (assignEach (e :: es) X.env).map (·.2) = assign e X.env :: (assignEach es X.env).map (·.2) := by rfl) : DGs X (e :: es) (gsCons g r) :=
  ⟨(pgs_cons h1.pg h2.pgs hs).imp fun vs σ H Q ⟨G0, H0, G, ρ, d, ρ', s, r, e, q⟩ => by
    unfold gsCons at e
    split at e
    · cases r with
      | cons r1 r2 =>
        obtain ⟨ρ1, e1, e2⟩ := bind_some e
        exact ⟨_, _, rfl, G0, H0, G, ρ, _, ρ1, s, r1, e1, fun σ1 s1 => ⟨G0, H0, G, ρ1, _, ρ', s1, r2, e2, q⟩⟩
    · cases e⟩
theorem g_tup {es : List Expr} {k : Nat} {g : SGs} {n : Nat} (hc : X.calm = true) (h : DGs X es g)
    (hn : (assignEach es X.env).length = n := by rfl) (hst : (assignEach es X.env).findIdx? (·.1) = none := by rfl) : DG X (.Tuple es k pos) (gT n g) :=
  ⟨(pg_tup hc h.pgs hn hst).imp fun v σ H Q ⟨G0, H0, G, ρ, d, ρ', s, r, e, q⟩ => by
    unfold gT at e
    split at e
    · obtain ⟨hl, e⟩ := ite_some e
      cases r with
      | tup hq ra => exact ⟨_, _, rfl, s.gx.gh.sqt (sqtOf hq), by rw [← ra.len]; exact hl, G0, H0, G, ρ, _, ρ', s, ra, e, q⟩
    · cases e⟩
end
end DV

namespace DV
open PySem L2

/-! ### comprehensions -/
def wipeR (ρ : Rho) : List Nat → Rho
  | [] => ρ
  | v :: vs => (wipeR ρ vs).set v .un
theorem wipeR_len (ρ : Rho) : ∀ vs : List Nat, (wipeR ρ vs).length = ρ.length
  | [] => rfl
  | v :: vs => by unfold wipeR; rw [List.length_set, wipeR_len ρ vs]
section
variable {K : PySem.W.Frag} {G0 : Fr} {B H0 G H G' H' : Hp} {ρ : Rho} {σ : L2.St} {d : PyData} {ds : List PyData}
theorem Sok.setOut (s : Sok K G0 H0 G ρ σ H) {i : Nat} (hi : ¬ i < ρ.length) : Sok K G0 H0 G (ρ.set i .un) (σ.set i none) H := by
  rw [List.set_eq_of_length_le (by omega), List.set_eq_of_length_le (by rw [s.len]; omega)]; exact s
theorem Sok.wipe (s : Sok K G0 H0 G ρ σ H) : ∀ vs : List Nat, Sok K G0 H0 G (wipeR ρ vs) (L2.wipe σ vs) H
  | [] => s
  | v :: vs => by
    show Sok K G0 H0 G ((wipeR ρ vs).set v .un) ((L2.wipe σ vs).set v none) H
    by_cases h : v < (wipeR ρ vs).length
    · exact (s.wipe vs).setUn h none
    · exact (s.wipe vs).setOut h
end
def lcGo (g : SG) (t : SB) (e : SE) (ρ : Rho) : List PyData → Option (List PyData)
  | [] => some []
  | d :: ds => (g d ρ).bind fun ρ1 => (t ρ1).bind fun k => if k = true then (e ρ1).bind fun y => (lcGo g t e ρ ds).bind fun ys => some (y :: ys) else lcGo g t e ρ ds
def eLc (f : SI) (g : SG) (t : SB) (e : SE) (vs : List Nat) : SE := fun ρ => (f ρ).bind fun ds => (lcGo g t e (wipeR ρ vs) ds).bind fun ys => if ys.length ≤ sizeLine then some (.list ys) else none
def bYes : SB := fun _ => some true
structure DTs (X : Cx) (ifs : List Expr) (f : SB) : Prop where
  pts : PTs X ifs (tT X.K f)
theorem _root_.L2.PTs.imp {X : Cx} {e : List Expr} {t t' : TT} (h : PTs X e t) (w : ∀ σ H Q, t' σ H Q → t σ H Q) : PTs X e t' := ⟨fun pins s σ H Q I q => h.run pins s σ H Q I (w σ H Q q)⟩
section
variable {X : Cx} {tg e iter c : Expr} {f : SE} {fi : SI} {g : SG} {t : SB} {pos : Pos}
theorem ts_nil : DTs X [] bYes := ⟨pts_nil.imp fun σ H Q ⟨G0, H0, G, ρ, k, s, e, q⟩ => by
  cases e
  exact q G H (Gx.refl s.gx.gh)⟩
theorem ts_one (h : DT X c t) : DTs X [c] t := ⟨pts_one h.pt⟩
/-- the target of a comprehension stores into the block's own slots alone -/
def GOwn (g : SG) (vs : List Nat) : Prop := ∀ d (ρ ρ' : Rho), g d ρ = some ρ' → ρ'.length = ρ.length
theorem wipe_eq (vs : List Nat) (σ σ' : L2.St) (hl : σ'.length = σ.length) (h : ∀ i, i ∉ vs → σ'[i]? = σ[i]?) : L2.wipe σ' vs = L2.wipe σ vs := by
  apply List.ext_getElem?
  intro i
  have get : ∀ (τ : L2.St) (vs : List Nat), (L2.wipe τ vs)[i]? = if i ∈ vs ∧ i < τ.length then some none else τ[i]? := by
    intro τ vs
    induction vs with
    | nil => simp [L2.wipe]
    | cons v r ih =>
      show ((L2.wipe τ r).set v none)[i]? = _
      by_cases hv : v = i
      · subst hv
        by_cases hlt : v < τ.length
        · rw [List.getElem?_set_self (by rw [wipe_length]; exact hlt), if_pos ⟨List.mem_cons_self, hlt⟩]
        · rw [List.set_eq_of_length_le (by rw [wipe_length]; omega), ih, if_neg (fun z => hlt z.2), if_neg (fun z => hlt z.2)]
      · rw [List.getElem?_set_ne hv, ih]
        by_cases hr : i ∈ r ∧ i < τ.length
        · rw [if_pos hr, if_pos ⟨List.mem_cons_of_mem _ hr.1, hr.2⟩]
        · rw [if_neg hr, if_neg (fun z => hr ⟨(List.mem_cons.mp z.1).resolve_left (fun q => hv q.symm), z.2⟩)]
  rw [get, get, hl]
  by_cases hi : i ∈ vs
  · by_cases hlt : i < σ.length
    · rw [if_pos ⟨hi, hlt⟩, if_pos ⟨hi, hlt⟩]
    · rw [if_neg (fun z => hlt z.2), if_neg (fun z => hlt z.2), List.getElem?_eq_none (by omega), List.getElem?_eq_none (by omega)]
  · rw [if_neg (fun z => hi z.1), if_neg (fun z => hi z.1)]; exact h i hi
end
/-! targets that touch the slots vs alone: their readings with that fact -/
def tGw (K : PySem.W.Frag) (vs : List Nat) (g : SG) : TG := fun v σ H Q => ∃ G0 H0 G ρ d ρ', Sok K G0 H0 G ρ σ H ∧ Rep K G d v ∧ g d ρ = some ρ' ∧ ∀ σ', σ'.length = σ.length → (∀ i, i ∉ vs → σ'[i]? = σ[i]?) → Sok K G0 H0 G ρ' σ' H → Q σ' H
def tGws (K : PySem.W.Frag) (vs : List Nat) (g : SGs) : TGs := fun us σ H Q => ∃ G0 H0 G ρ ds ρ', Sok K G0 H0 G ρ σ H ∧ RepA K G ds us ∧ g ds ρ = some ρ' ∧ ∀ σ', σ'.length = σ.length → (∀ i, i ∉ vs → σ'[i]? = σ[i]?) → Sok K G0 H0 G ρ' σ' H → Q σ' H
structure DGw (X : Cx) (vs : List Nat) (tg : Expr) (g : SG) : Prop where
  pg : PG X tg (tGw X.K vs g)
structure DGws (X : Cx) (vs : List Nat) (tg : List Expr) (g : SGs) : Prop where
  pgs : PGs X tg (tGws X.K vs g)
section
variable {X : Cx} {tg e : Expr} {vs : List Nat} {pos : Pos} {x : Str}
theorem gw_name (i : Nat) (hN : X.N.Nodup) (hv : i ∈ vs := by decide) (hi : X.N[i]? = some x := by rfl) (hx : Loc X.env.scope x := by first | exact Or.inl rfl | exact Or.inr rfl) (hf : X.fn x = true ∨ X.env.scope.names.lookup x = some .local := by first | exact .inl rfl | exact .inr rfl | assumption) : DGw X vs (.Name x pos) (gV i) :=
  ⟨(pg_name hN hi hx hf).imp fun v σ H Q ⟨G0, H0, G, ρ, d, ρ', s, r, e, q⟩ => by
    obtain ⟨hl, rfl⟩ := if_some e
    exact q _ (List.length_set ..) (fun j hj => List.getElem?_set_ne (show i ≠ j from fun z => hj (z ▸ hv))) (s.setVal hl r)⟩
theorem gws_nil : DGws X vs [] gsNil := ⟨pgs_nil.imp fun us σ H Q ⟨G0, H0, G, ρ, d, ρ', s, r, e, q⟩ => by
  unfold gsNil at e
  split at e
  · cases e; cases r; exact ⟨rfl, q _ rfl (fun _ _ => rfl) s⟩
  · cases e⟩
theorem gws_cons {es : List Expr} {g : SG} {r : SGs} (h1 : DGw X vs e g) (h2 : DGws X vs es r) (hs : (assignEach (e :: es) X.env).map (·.2) = assign e X.env :: (assignEach es X.env).map (·.2) := by rfl) : DGws X vs (e :: es) (gsCons g r) :=
  ⟨(pgs_cons h1.pg h2.pgs hs).imp fun us σ H Q ⟨G0, H0, G, ρ, d, ρ', s, r, e, q⟩ => by
    unfold gsCons at e
    split at e
    · cases r with
      | cons r1 r2 =>
        obtain ⟨ρ1, e1, e2⟩ := bind_some e
        exact ⟨_, _, rfl, G0, H0, G, ρ, _, ρ1, s, r1, e1, fun σ1 l1 k1 s1 => ⟨G0, H0, G, ρ1, _, ρ', s1, r2, e2, fun σ2 l2 k2 s2 => q σ2 (l2.trans l1) (fun i hi => (k2 i hi).trans (k1 i hi)) s2⟩⟩
    · cases e⟩
theorem gw_tup {es : List Expr} {k : Nat} {g : SGs} {n : Nat} (hc : X.calm = true) (h : DGws X vs es g)
    (hn : (assignEach es X.env).length = n := by rfl) (hst : (assignEach es X.env).findIdx? (·.1) = none := by rfl) : DGw X vs (.Tuple es k pos) (gT n g) :=
  ⟨(pg_tup hc h.pgs hn hst).imp fun v σ H Q ⟨G0, H0, G, ρ, d, ρ', s, r, e, q⟩ => by
    unfold gT at e
    split at e
    · obtain ⟨hl, e⟩ := ite_some e
      cases r with
      | tup hq ra => exact ⟨_, _, rfl, s.gx.gh.sqt (sqtOf hq), by rw [← ra.len]; exact hl, G0, H0, G, ρ, _, ρ', s, ra, e, q⟩
    · cases e⟩
end
section
variable {X : Cx} {tg elt iter : Expr} {f : SE} {fi : SI} {g : SG} {t : SB} {pos : Pos} {ifs : List Expr} {scope : Scope} {own : List (Str × Nat)}
/-- the heart of a comprehension over WalkD -/
theorem lc_loop {K : PySem.W.Frag} {G0 : Fr} {H0 G H : Hp} {ρ : Rho} {σ : L2.St} {vs : List Nat} {J : It} {ds ys : List PyData} {D : Addr} {Q : V → Hp → Prop}
    (s : Sok K G0 H0 G ρ σ H) (w : WalkD K H G J ds) (hys : lcGo g t f (wipeR ρ vs) ds = some ys) (hl : ys.length ≤ sizeLine) (hD : H D = none)
    (q : ∀ G' H' v, Gx G H G' H' → RM K H0 H .new G' H' (.list ys) v → Q v H') :
    ∃ W : Nat → Nat → Hp → Prop, (∃ m, W 0 m (upd H D (.lst []))) ∧ ∀ i m H, W i m H →
      (J.stop i H ∧ Q (.ref D) H) ∨ (J.go i H ∧ ∃ Nx : Hp → Prop, (∀ H', Nx H' → ∃ m', m' < m ∧ W (i + 1) m' H') ∧ ∀ x H', J.yld i H x H' → tGw K vs g x (L2.wipe σ vs) H' fun σ2 H2 => L2.wipe σ2 vs = L2.wipe σ vs ∧ tT K t σ2 H2 fun b H3 =>
        if b = true then tE K .val f σ2 H3 fun y H4 => ∃ acc, H4 D = some (.lst acc) ∧ acc.length < sizeLine ∧ Nx (upd H4 D (.lst (acc ++ [y]))) else Nx H3) := by
  -- the state ahead of turn i: what is made so far, what is left
  let St (i : Nat) (Hi : Hp) : Prop := ∃ Gi done rest us, Gx G H Gi Hi ∧ Gi D = none ∧ Hi D = some (.lst us) ∧ RepA K Gi done us ∧ ys = done ++ rest ∧ i ≤ ds.length ∧ lcGo g t f (wipeR ρ vs) (ds.drop i) = some rest
  refine ⟨fun i m Hi => m = ds.length - i ∧ St i Hi, ⟨_, rfl, G, [], ys, [], Gx.mine s.gx.gh hD, s.gx.gh.back hD, upd_same, .nil, rfl, Nat.zero_le _, hys⟩, ?_⟩
  rintro i m Hi ⟨rfl, Gi, done, rest, us, gx, gD, eD, ra, ey, hi, hr⟩
  have si := s.gx' gx
  by_cases hlt : i < ds.length
  · refine .inr ⟨w.goes i Gi Hi hlt gx.g gx.gh gx.h, St (i + 1), fun H' p => ⟨_, by omega, rfl, p⟩, fun x H' hy => ?_⟩
    have hd := List.getElem?_eq_getElem hlt
    obtain ⟨G3, gx3, rx⟩ := w.yields i _ Gi Hi x H' hd gx.g gx.gh gx.h hy
    rw [List.drop_eq_getElem_cons hlt] at hr
    obtain ⟨ρ1, e1, hr⟩ := bind_some hr
    obtain ⟨k, e2, hr⟩ := bind_some hr
    have s3 := (si.wipe vs).gx' gx3
    refine ⟨G0, H0, G3, _, _, ρ1, s3, rx, e1, fun σ2 l2 k2 s2 => ⟨?_, ?_⟩⟩
    · rw [wipe_eq vs (L2.wipe σ vs) σ2 l2 k2]
      exact wipe_eq vs σ (L2.wipe σ vs) (wipe_length _ _) fun j hj => wipe_out hj
    · refine ⟨G0, H0, G3, ρ1, k, s2, e2, fun G4 H4 gx4 => ?_⟩
      have gxa := (gx.trans gx3).trans gx4
      have gx34 := gx3.trans gx4
      have noD : ∀ {G' H' : Hp}, Gx Gi Hi G' H' → G' D = none ∧ H' D = some (.lst us) := fun {G' H'} gxq => by
        refine ⟨?_, gxq.h _ _ eD⟩
        cases z : G' D with
        | none => rfl
        | some u =>
          rcases gxq.nw D (by rw [z]; simp) with y | y
          · exact absurd gD y
          · rw [eD] at y; exact (show False from y).elim
      cases k with
      | false =>
        refine iteF ⟨G4, done, rest, us, gxa, (noD gx34).1, (noD gx34).2, ra.mono gx34.g, ey, hlt, hr⟩
      | true =>
        refine iteT ?_
        obtain ⟨y, e3, hr⟩ := bind_some (show _ = _ from hr)
        obtain ⟨r2, e4, hr⟩ := bind_some hr
        cases hr
        refine ⟨G0, H0, G4, ρ1, y, s2.gx' gx4, e3, fun G5 H5 v gx5 r5 => ?_⟩
        have gx35 := gx34.trans gx5
        obtain ⟨n1, n2⟩ := noD gx35
        refine ⟨us, n2, ?_, G5, done ++ [y], r2, us ++ [v], ?_, n1, upd_same, (ra.mono gx35.g).app (.cons r5 .nil), by rw [ey]; simp, hlt, e4⟩
        · rw [← ra.len]
          have : ys.length = done.length + (r2.length + 1) := by rw [ey]; simp
          omega
        · have z := gx.trans gx35
          refine ⟨z.g, z.h.mut hD, z.gh.mut n1, z.nw⟩
  · have ei : i = ds.length := by omega
    subst ei
    rw [List.drop_length] at hr
    cases hr
    refine .inl ⟨w.stops Gi Hi gx.g gx.gh gx.h, q Gi Hi _ gx ⟨D, rfl, hD, gD, .lst eD ?_⟩⟩
    rw [ey, List.append_nil]; exact ra
theorem d_lc {wide : Bool} {vs : List Nat} (hc : X.calm = true) (hN : X.N.Nodup) (hvs : own.map (·.2) = vs) (hi : DI X tg iter wide fi) (ok : BlkOk X.N X.env.scope scope own)
    (hg : ∀ (s : Shared) (H : Hp) (C : Addr) (cl : List (Str × Addr)) (fp : List Addr), DGw (X.blk s H scope (compEnvC scope cl C X.env) fp) vs tg g)
    (ht : ∀ (s : Shared) (H : Hp) (C : Addr) (cl : List (Str × Addr)) (fp : List Addr), DTs (X.blk s H scope (compEnvC scope cl C X.env) fp) ifs t)
    (he : ∀ (s : Shared) (H : Hp) (C : Addr) (cl : List (Str × Addr)) (fp : List Addr), DX (X.blk s H scope (compEnvC scope cl C X.env) fp) .val elt f)
    (hs : ∀ x, foldedSetIterable iter X.env x = pure x := by intro _; rfl) : DX X .new (.ListComp elt [⟨tg, iter, ifs, 0⟩] scope pos) (eLc fi g t f vs) := by
  subst hvs
  exact ⟨(pe_lc hc hN hi.pi ok (fun s H C cl fp => (hg s H C cl fp).pg) (fun s H C cl fp => (ht s H C cl fp).pts) (fun s H C cl fp => (he s H C cl fp).pe) hs).imp fun σ H Q ⟨G0, H0, G, ρ, d, s, ed, q⟩ => by
    obtain ⟨ds, e1, ed⟩ := bind_some ed
    obtain ⟨ys, e2, ed⟩ := bind_some ed
    obtain ⟨hl, rfl⟩ := if_some ed
    refine ⟨G0, H0, G, ρ, ds, s, e1, fun G1 H1 J gx1 w => fun D hD => ?_⟩
    have w' : WalkD X.K H1 G1 J ds := by
      cases wide with
      | true => exact w
      | false =>
        have z := s.gx.h.trans gx1.h
        exact ⟨fun i G2 H2 a b c e => w.goes i G2 H2 a b c (z.trans e), fun G2 H2 b c e => w.stops G2 H2 b c (z.trans e), fun i d G2 H2 x H3 a b c e => w.yields i d G2 H2 x H3 a b c (z.trans e)⟩
    exact lc_loop (s.gx' gx1) w' e2 hl hD fun G' H' v gx r => q G' H' v (gx1.trans gx) (r.start gx1.h)⟩
end
end DV

namespace DV
open PySem L2

/-! ### statements -/
def OutOk (K : PySem.W.Frag) (rm : Md) (G0 : Fr) (H0 G : Hp) (D : Ends) : Out → Prop
  | .nx ρ' => ∀ G' σ' H', Ex G G' → Sok K G0 H0 G' ρ' σ' H' → D.nx σ' H'
  | .bk ρ' => ∀ G' σ' H', Ex G G' → Sok K G0 H0 G' ρ' σ' H' → D.bk σ' H'
  | .ct ρ' => ∀ G' σ' H', Ex G G' → Sok K G0 H0 G' ρ' σ' H' → D.ct σ' H'
  | .rt d => ∀ G' H' v, Gx G0.g H0 G' H' → RM K H0 H0 rm G' H' d v → D.rt v H'
def tS (K : PySem.W.Frag) (rm : Md) (f : SS) : TS := fun D σ H => ∃ G0 H0 G ρ o, Sok K G0 H0 G ρ σ H ∧ f ρ = some o ∧ OutOk K rm G0 H0 G D o
structure DS (X : Cx) (rm : Md) (st : Stmt) (f : SS) : Prop where
  ps : PS X st (tS X.K rm f)
structure DB (X : Cx) (rm : Md) (st : List Stmt) (f : SS) : Prop where
  pss : PSs X st (tS X.K rm f)
theorem OutOk.grow {K : PySem.W.Frag} {rm : Md} {G0 : Fr} {H0 G G1 : Hp} {D : Ends} {o : Out} (e : Ex G G1) (h : OutOk K rm G0 H0 G D o) : OutOk K rm G0 H0 G1 D o := by
  cases o with
  | nx ρ => exact fun G' σ' H' e2 s => h G' σ' H' (e.trans e2) s
  | bk ρ => exact fun G' σ' H' e2 s => h G' σ' H' (e.trans e2) s
  | ct ρ => exact fun G' σ' H' e2 s => h G' σ' H' (e.trans e2) s
  | rt d => exact h
def sNext : SS := fun ρ => some (.nx ρ)
def sSeqn (f g : SS) : SS := fun ρ => (f ρ).bind fun o => match o with
  | .nx ρ' => g ρ'
  | o => some o
section
variable {X : Cx} {rm : Md} {st : Stmt} {rest b1 b2 : List Stmt} {f g : SS} {e c : Expr} {fe : SE} {t : SB} {pos : Pos} {x : Str}
theorem b_nil : DB X rm [] sNext := ⟨pss_nil.imp fun D σ H ⟨G0, H0, G, ρ, o, s, e, q⟩ => by
  cases e
  exact q G σ H (Ex.refl _) s⟩
theorem seq_of {K : PySem.W.Frag} {t u : TS} (h1 : ∀ D σ H, tS K rm f D σ H → t D σ H) (h2 : ∀ D σ H, tS K rm g D σ H → u D σ H) : ∀ D σ H, tS K rm (sSeqn f g) D σ H → tSeq t u D σ H := fun D σ H ⟨G0, H0, G, ρ, o, s, e, q⟩ => by
  obtain ⟨o1, e1, e2⟩ := bind_some e
  refine h1 _ σ H ⟨G0, H0, G, ρ, o1, s, e1, ?_⟩
  cases o1 with
  | nx ρ' => exact fun G' σ' H' eg s' => h2 D σ' H' ⟨G0, H0, G', ρ', o, s', e2, q.grow eg⟩
  | bk ρ' => cases e2; exact q
  | ct ρ' => cases e2; exact q
  | rt d => cases e2; exact q
theorem b_cons (h1 : DS X rm st f) (h2 : DB X rm rest g) : DB X rm (st :: rest) (sSeqn f g) := ⟨(pss_cons h1.ps h2.pss).imp (seq_of (fun _ _ _ h => h) fun _ _ _ h => h)⟩
theorem b_one (h1 : DS X rm st f) : DB X rm [st] f := ⟨pss_one h1.ps⟩
def sBrk : SS := fun ρ => some (.bk ρ)
def sCnt : SS := fun ρ => some (.ct ρ)
theorem s_pass : DS X rm (.Pass pos) sNext := ⟨ps_pass.imp fun D σ H ⟨G0, H0, G, ρ, o, s, e, q⟩ => by
  cases e
  exact q G σ H (Ex.refl _) s⟩
theorem s_break : DS X rm (.Break pos) sBrk := ⟨ps_break.imp fun D σ H ⟨G0, H0, G, ρ, o, s, e, q⟩ => by
  cases e
  exact q G σ H (Ex.refl _) s⟩
theorem s_continue : DS X rm (.Continue pos) sCnt := ⟨ps_continue.imp fun D σ H ⟨G0, H0, G, ρ, o, s, e, q⟩ => by
  cases e
  exact q G σ H (Ex.refl _) s⟩
def sExpr (f : SE) : SS := fun ρ => (f ρ).bind fun _ => some (.nx ρ)
theorem s_expr {m : Md} (he : DX X m e fe) (hs : swapsWith e none pos.line X.env = pure false := by rfl) : DS X rm (.Expr e pos) (sExpr fe) :=
  ⟨(ps_expr he.pe hs).imp fun D σ H ⟨G0, H0, G, ρ, o, s, e, q⟩ => by
    obtain ⟨d, e1, e2⟩ := bind_some e
    cases e2
    exact ⟨G0, H0, G, ρ, d, s, e1, fun G' H' v gx r => q G' σ H' gx.g (s.gx' gx)⟩⟩
def sRet (f : SE) : SS := fun ρ => (f ρ).bind fun d => some (.rt d)
theorem s_ret (he : DX X rm e fe) (hr : rm = .val ∨ rm = .new := by first | exact Or.inl rfl | exact Or.inr rfl) : DS X rm (.Return (some e) pos) (sRet fe) :=
  ⟨(ps_ret he.pe).imp fun D σ H ⟨G0, H0, G, ρ, o, s, e, q⟩ => by
    obtain ⟨d, e1, e2⟩ := bind_some e
    cases e2
    refine ⟨G0, H0, G, ρ, d, s, e1, fun G' H' v gx r => q G' H' v (s.gx.trans gx) ?_⟩
    exact r.start s.gx.h⟩
/-- return of an own list by its name -/
def sRetOwn (i : Nat) : SS := fun ρ => match ρ[i]? with
  | some (.own d) => some (.rt d)
  | _ => none
theorem s_retOwn (i : Nat) {p : Pos} (hN : X.N[i]? = some x := by rfl) (hv : Vis X.env.scope x := by first | exact Or.inl rfl | exact Or.inr (Or.inl rfl) | exact Or.inr (Or.inr rfl)) (hd : (x == ("__debug__" : Str)) = false := by decide)
    (hcd : (x == ("__classdict__" : Str)) = false := by decide) : DS X .new (.Return (some (.Name x p)) pos) (sRetOwn i) :=
  ⟨(ps_ret (pe_var hN hv hd hcd)).imp fun D σ H ⟨G0, H0, G, ρ, o, s, e, q⟩ => by
    unfold sRetOwn at e
    split at e
    · cases e
      rename_i d h
      obtain ⟨a, h1, h2, h3, h4⟩ := s.own h
      exact ⟨_, h1, q G H _ s.gx ⟨a, rfl, h2, h3, h4⟩⟩
    · cases e⟩
def sRetN : SS := fun _ => some (.rt .none)
theorem s_retN : DS X .val (.Return none pos) sRetN := ⟨ps_retN.imp fun D σ H ⟨G0, H0, G, ρ, o, s, e, q⟩ => by
  cases e
  exact q G H _ s.gx .non⟩
def sIf (t : SB) (f g : SS) : SS := fun ρ => (t ρ).bind fun k => if k = true then f ρ else g ρ
theorem s_if (hc : DT X c t) (h1 : DB X rm b1 f) (h2 : DB X rm b2 g) : DS X rm (.If c b1 b2 pos) (sIf t f g) :=
  ⟨(ps_if hc.pt h1.pss h2.pss).imp fun D σ H ⟨G0, H0, G, ρ, o, s, e, q⟩ => by
    obtain ⟨k, e1, e2⟩ := bind_some e
    refine ⟨G0, H0, G, ρ, k, s, e1, fun G' H' gx => ?_⟩
    cases k with
    | true => exact iteT ⟨G0, H0, G', ρ, o, s.gx' gx, e2, q.grow gx.g⟩
    | false => exact iteF ⟨G0, H0, G', ρ, o, s.gx' gx, e2, q.grow gx.g⟩⟩

/-! ### stores -/
def sSet (i : Nat) (f : SE) : SS := fun ρ => (f ρ).bind fun d => if i < ρ.length then some (.nx (ρ.set i (.val d))) else none
def sOwn (i : Nat) (f : SE) : SS := fun ρ => (f ρ).bind fun d => if i < ρ.length then some (.nx (ρ.set i (.own d))) else none
theorem set_of {K : PySem.W.Frag} {i : Nat} : ∀ D σ H, tS K rm (sSet i fe) D σ H → tAsg (tE K .val fe) (gName i) D σ H := fun D σ H ⟨G0, H0, G, ρ, o, s, e, q⟩ => by
  obtain ⟨d, e1, e2⟩ := bind_some e
  obtain ⟨hl, rfl⟩ := if_some e2
  exact ⟨G0, H0, G, ρ, d, s, e1, fun G' H' v gx r => q G' _ H' gx.g ((s.gx' gx).setVal hl r)⟩
theorem own_of {K : PySem.W.Frag} {i : Nat} : ∀ D σ H, tS K rm (sOwn i fe) D σ H → tAsg (tE K .new fe) (gName i) D σ H := fun D σ H ⟨G0, H0, G, ρ, o, s, e, q⟩ => by
  obtain ⟨d, e1, e2⟩ := bind_some e
  obtain ⟨hl, rfl⟩ := if_some e2
  exact ⟨G0, H0, G, ρ, d, s, e1, fun G' H' v gx r => q G' _ H' gx.g (s.setOwn gx hl r)⟩
theorem s_set (i : Nat) {pos' : Pos} (hN : X.N.Nodup) (he : DX X .val e fe) (hi : X.N[i]? = some x := by rfl) (hx : Loc X.env.scope x := by first | exact Or.inl rfl | exact Or.inr rfl) (hs : swapsWith e (some (.Name x pos')) pos.line X.env = pure false := by rfl)
    (hf : X.fn x = true ∨ X.env.scope.names.lookup x = some .local := by first | exact .inl rfl | exact .inr rfl | assumption) : DS X rm (.Assign [.Name x pos'] e pos) (sSet i fe) := ⟨(ps_set hN hi hx he.pe hs hf).imp set_of⟩
theorem s_own (i : Nat) {pos' : Pos} (hN : X.N.Nodup) (he : DX X .new e fe) (hi : X.N[i]? = some x := by rfl) (hx : Loc X.env.scope x := by first | exact Or.inl rfl | exact Or.inr rfl) (hs : swapsWith e (some (.Name x pos')) pos.line X.env = pure false := by rfl)
    (hf : X.fn x = true ∨ X.env.scope.names.lookup x = some .local := by first | exact .inl rfl | exact .inr rfl | assumption) : DS X rm (.Assign [.Name x pos'] e pos) (sOwn i fe) := ⟨(ps_set hN hi hx he.pe hs hf).imp own_of⟩
def sAsg (f : SE) (g : SG) : SS := fun ρ => (f ρ).bind fun d => (g d ρ).bind fun ρ' => some (.nx ρ')
theorem s_asg {tg : Expr} {g : SG} (he : DX X .val e fe) (hg : DG X tg g) (hs : swapsWithSole [tg] e pos.line X.env = pure false := by rfl) (hw : swappedStores [tg] e X.env = pure none := by rfl)
    (h1 : (assignEach [tg] X.env).map (·.2) = [assign tg X.env] := by rfl) : DS X rm (.Assign [tg] e pos) (sAsg fe g) :=
  ⟨(ps_asg he.pe hg.pg hs hw h1).imp fun D σ H ⟨G0, H0, G, ρ, o, s, e, q⟩ => by
    obtain ⟨d, e1, e2⟩ := bind_some e
    obtain ⟨ρ', e3, e4⟩ := bind_some e2
    cases e4
    exact ⟨G0, H0, G, ρ, d, s, e1, fun G' H' v gx r => ⟨G0, H0, G', ρ, d, ρ', s.gx' gx, r, e3, fun σ' s' => q G' σ' H' gx.g s'⟩⟩⟩
/-- a name op= an int -/
def sAug (i : Nat) (F : PyData → PyData → Option PyData) (f : SE) : SS := fun ρ => (eV i ρ).bind fun x => (f ρ).bind fun y => (F x y).bind fun d => some (.nx (ρ.set i (.val d)))
def addI : PyData → PyData → Option PyData
  | .int i, .int j => some (.int (i + j))
  | _, _ => none
def subI : PyData → PyData → Option PyData
  | .int i, .int j => some (.int (i - j))
  | _, _ => none
theorem aug_of {op : Operator} {F : PyData → PyData → Option PyData} {k : Int → Int → Int} {i : Nat} (hF : ∀ x y d, F x y = some d → ∃ a b, x = .int a ∧ y = .int b ∧ d = .int (k a b)) :
    ∀ D σ H, tS X.K rm (sAug i F fe) D σ H → tAug i (tE X.K .val fe) (ipI k) D σ H := fun D σ H ⟨G0, H0, G, ρ, o, s, e, q⟩ => by
  obtain ⟨d1, e1, e2⟩ := bind_some e
  obtain ⟨d2, e3, e4⟩ := bind_some e2
  obtain ⟨d3, e5, e6⟩ := bind_some e4
  cases e6
  obtain ⟨a, b, rfl, rfl, rfl⟩ := hF _ _ _ e5
  unfold eV at e1
  split at e1
  · cases e1
    rename_i h
    have hi : i < ρ.length := (List.getElem?_eq_some_iff.mp h).1
    have z := s.slot i _ h
    generalize e2 : σ[i]?.getD none = w at z
    cases z with
    | val r =>
      cases r
      refine ⟨_, getD_some e2, G0, H0, G, ρ, _, s, e3, fun G' H' v gx r => ?_⟩
      cases (show Rep X.K G' (.int b) v from r)
      exact ⟨a, b, rfl, rfl, q G' _ H' gx.g ((s.gx' gx).setVal hi (.int _))⟩
  · cases e1
theorem s_augAdd (i : Nat) {pos' : Pos} (hN : X.N.Nodup) (he : DX X .val e fe) (hi : X.N[i]? = some x := by rfl) (hx : Loc X.env.scope x := by first | exact Or.inl rfl | exact Or.inr rfl)
    (hf : X.fn x = true ∨ X.env.scope.names.lookup x = some .local := by first | exact .inl rfl | exact .inr rfl | assumption) : DS X rm (.AugAssign (.Name x pos') .Add e pos) (sAug i addI fe) :=
  ⟨(ps_aug hN hi hx he.pe ip_add hf).imp (aug_of (op := .Add) fun x y d h => by
    unfold addI at h
    split at h
    · cases h; exact ⟨_, _, rfl, rfl, rfl⟩
    · cases h)⟩
theorem s_augSub (i : Nat) {pos' : Pos} (hN : X.N.Nodup) (he : DX X .val e fe) (hi : X.N[i]? = some x := by rfl) (hx : Loc X.env.scope x := by first | exact Or.inl rfl | exact Or.inr rfl)
    (hf : X.fn x = true ∨ X.env.scope.names.lookup x = some .local := by first | exact .inl rfl | exact .inr rfl | assumption) : DS X rm (.AugAssign (.Name x pos') .Sub e pos) (sAug i subI fe) :=
  ⟨(ps_aug hN hi hx he.pe ip_sub hf).imp (aug_of (op := .Sub) fun x y d h => by
    unfold subI at h
    split at h
    · cases h; exact ⟨_, _, rfl, rfl, rfl⟩
    · cases h)⟩
/-- name = [..] on one line -/
theorem s_setLcB (i : Nat) {py spos : Pos} {tg elt iter : Expr} {ifs : List Expr} {scope : Scope} {own : List (Str × Nat)} {fi : SI} {g : SG} {wide : Bool} {y : Str} (hN : X.N.Nodup) (hc : X.calm = true)
    (hsw : swapsWith (.ListComp elt [⟨tg, iter, ifs, 0⟩] scope pos) (some (.Name y py)) spos.line X.env = pure true) (hi : DI X tg iter wide fi) (ok : BlkOk X.N X.env.scope scope own)
    (hg : ∀ (s : Shared) (H : Hp) (C : Addr) (cl : List (Str × Addr)) (fp : List Addr), DGw (X.blk s H scope (compEnvC scope cl C X.env) fp) (own.map (·.2)) tg g)
    (ht : ∀ (s : Shared) (H : Hp) (C : Addr) (cl : List (Str × Addr)) (fp : List Addr), DTs (X.blk s H scope (compEnvC scope cl C X.env) fp) ifs t)
    (he : ∀ (s : Shared) (H : Hp) (C : Addr) (cl : List (Str × Addr)) (fp : List Addr), DX (X.blk s H scope (compEnvC scope cl C X.env) fp) .val elt fe)
    (hy : X.N[i]? = some y := by rfl) (hyl : X.env.scope.names.lookup y = some .local := by rfl) (hs : ∀ x, foldedSetIterable iter X.env x = pure x := by intro _; rfl) :
    (DS X rm (.Assign [.Name y py] (.ListComp elt [⟨tg, iter, ifs, 0⟩] scope pos) spos) (sSet i (eLc fi g t fe (own.map (·.2))))) ∧ DS X rm (.Assign [.Name y py] (.ListComp elt [⟨tg, iter, ifs, 0⟩] scope pos) spos) (sOwn i (eLc fi g t fe (own.map (·.2)))) := by
  have base := ps_setLc (i := i) (py := py) (spos := spos) (g := tGw X.K (own.map (·.2)) g) (tt := tT X.K t) (te := tE X.K .val fe) hc hN hy hyl hsw hi.pi ok (fun s H C cl fp => (hg s H C cl fp).pg) (fun s H C cl fp => (ht s H C cl fp).pts) (fun s H C cl fp => (he s H C cl fp).pe) hs
  have key : ∀ (σ : L2.St) (H : Hp) (Q : VK), tE X.K .new (eLc fi g t fe (own.map (·.2))) σ H Q → tLc (tI X.K wide fi) (tGw X.K (own.map (·.2)) g) (tT X.K t) (tE X.K .val fe) (own.map (·.2)) σ H Q := fun σ H Q ⟨G0, H0, G, ρ, d, s, ed, q⟩ => by
    obtain ⟨ds, e1, ed⟩ := bind_some ed
    obtain ⟨ys, e2, ed⟩ := bind_some ed
    obtain ⟨hl, rfl⟩ := if_some ed
    refine ⟨G0, H0, G, ρ, ds, s, e1, fun G1 H1 J gx1 w => fun D hD => ?_⟩
    have w' : WalkD X.K H1 G1 J ds := by
      cases wide with
      | true => exact w
      | false =>
        have z := s.gx.h.trans gx1.h
        exact ⟨fun i G2 H2 a b c e => w.goes i G2 H2 a b c (z.trans e), fun G2 H2 b c e => w.stops G2 H2 b c (z.trans e), fun i d G2 H2 x H3 a b c e => w.yields i d G2 H2 x H3 a b c (z.trans e)⟩
    exact lc_loop (s.gx' gx1) w' e2 hl hD fun G' H' v gx r => q G' H' v (gx1.trans gx) (r.start gx1.h)
  have fz : ∀ (σ : L2.St) (H : Hp) (Q : VK), tE X.K .val (eLc fi g t fe (own.map (·.2))) σ H Q → tE X.K .new (eLc fi g t fe (own.map (·.2))) σ H Q := fun σ H Q ⟨G0, H0, G, ρ, d, s, ed, q⟩ => ⟨G0, H0, G, ρ, d, s, ed, fun G' H' v x r => by
    obtain ⟨_, _, ed2⟩ := bind_some ed
    obtain ⟨_, _, ed3⟩ := bind_some ed2
    obtain ⟨_, rfl⟩ := if_some ed3
    obtain ⟨G2, x2, _, r2⟩ := RM.freezeL x r
    exact q G2 H' v x2 r2⟩
  exact ⟨⟨base.imp fun D σ H h => key σ H _ (fz σ H _ (set_of D σ H h))⟩, ⟨base.imp fun D σ H h => key σ H _ (own_of D σ H h)⟩⟩
theorem s_setLc (i : Nat) {py spos : Pos} {tg elt iter : Expr} {ifs : List Expr} {scope : Scope} {own : List (Str × Nat)} {fi : SI} {g : SG} {wide : Bool} {y : Str} {vs : List Nat} (hN : X.N.Nodup) (hvs : own.map (·.2) = vs) (hc : X.calm = true)
    (hsw : swapsWith (.ListComp elt [⟨tg, iter, ifs, 0⟩] scope pos) (some (.Name y py)) spos.line X.env = pure true) (hi : DI X tg iter wide fi) (ok : BlkOk X.N X.env.scope scope own)
    (hg : ∀ (s : Shared) (H : Hp) (C : Addr) (cl : List (Str × Addr)) (fp : List Addr), DGw (X.blk s H scope (compEnvC scope cl C X.env) fp) vs tg g)
    (ht : ∀ (s : Shared) (H : Hp) (C : Addr) (cl : List (Str × Addr)) (fp : List Addr), DTs (X.blk s H scope (compEnvC scope cl C X.env) fp) ifs t)
    (he : ∀ (s : Shared) (H : Hp) (C : Addr) (cl : List (Str × Addr)) (fp : List Addr), DX (X.blk s H scope (compEnvC scope cl C X.env) fp) .val elt fe)
    (hy : X.N[i]? = some y := by rfl) (hyl : X.env.scope.names.lookup y = some .local := by rfl) (hs : ∀ x, foldedSetIterable iter X.env x = pure x := by intro _; rfl) :
    DS X rm (.Assign [.Name y py] (.ListComp elt [⟨tg, iter, ifs, 0⟩] scope pos) spos) (sSet i (eLc fi g t fe vs)) := by
  subst hvs
  exact (s_setLcB i hN hc hsw hi ok hg ht he hy hyl hs).1
theorem s_ownLc (i : Nat) {py spos : Pos} {tg elt iter : Expr} {ifs : List Expr} {scope : Scope} {own : List (Str × Nat)} {fi : SI} {g : SG} {wide : Bool} {y : Str} {vs : List Nat} (hN : X.N.Nodup) (hvs : own.map (·.2) = vs) (hc : X.calm = true)
    (hsw : swapsWith (.ListComp elt [⟨tg, iter, ifs, 0⟩] scope pos) (some (.Name y py)) spos.line X.env = pure true) (hi : DI X tg iter wide fi) (ok : BlkOk X.N X.env.scope scope own)
    (hg : ∀ (s : Shared) (H : Hp) (C : Addr) (cl : List (Str × Addr)) (fp : List Addr), DGw (X.blk s H scope (compEnvC scope cl C X.env) fp) vs tg g)
    (ht : ∀ (s : Shared) (H : Hp) (C : Addr) (cl : List (Str × Addr)) (fp : List Addr), DTs (X.blk s H scope (compEnvC scope cl C X.env) fp) ifs t)
    (he : ∀ (s : Shared) (H : Hp) (C : Addr) (cl : List (Str × Addr)) (fp : List Addr), DX (X.blk s H scope (compEnvC scope cl C X.env) fp) .val elt fe)
    (hy : X.N[i]? = some y := by rfl) (hyl : X.env.scope.names.lookup y = some .local := by rfl) (hs : ∀ x, foldedSetIterable iter X.env x = pure x := by intro _; rfl) :
    DS X rm (.Assign [.Name y py] (.ListComp elt [⟨tg, iter, ifs, 0⟩] scope pos) spos) (sOwn i (eLc fi g t fe vs)) := by
  subst hvs
  exact (s_setLcB i hN hc hsw hi ok hg ht he hy hyl hs).2

/-! ### freezing, a ghost -/
def sFz (i : Nat) (f : SS) : SS := fun ρ => match ρ[i]? with
  | some (.own d) => f (ρ.set i (.val d))
  | some (.val _) => f ρ
  | _ => none
def tFzS (t : TS) : TS := fun D σ H => t D σ H ∨ ∃ d u, H d = some u ∧ Mut (some u) ∧ ∀ od, t D σ (upd H d (.frz od u))
theorem ps_fz {t : TS} (h : PS X st t) : PS X st (tFzS t) := ⟨fun pins s σ H D I q => by
  rcases q with q | ⟨d, w, hd, mu, q⟩
  · exact h.run pins s σ H D I q
  · obtain ⟨od, I2⟩ := I.lock hd mu
    exact h.run pins s σ _ D I2 (q od)⟩
theorem fz_of {K : PySem.W.Frag} {i : Nat} {D : Ends} {σ : L2.St} {H : Hp} (h : tS K rm (sFz i f) D σ H) : tFzS (tS K rm f) D σ H := by
  obtain ⟨G0, H0, G, ρ, o, s, e, q⟩ := h
  unfold sFz at e
  split at e
  · rename_i d h
    obtain ⟨a, u, hu, r⟩ := s.freeze h
    rcases r with ⟨G', eg, s'⟩ | ⟨mu, r⟩
    · exact .inl ⟨G0, H0, G', _, o, s', e, q.grow eg⟩
    · exact .inr ⟨a, u, hu, mu, fun od => (r od).elim fun G' z => ⟨G0, H0, G', _, o, z.2, e, q.grow z.1⟩⟩
  · exact .inl ⟨G0, H0, G, ρ, o, s, e, q⟩
  · cases e
theorem s_fz (i : Nat) (h : DS X rm st f) : DS X rm st (sFz i f) := ⟨(ps_fz h.ps).imp fun D σ H q => fz_of q⟩

/-! ### loops -/
def forGo (g : SG) (b : SS) : List PyData → Rho → Option Out
  | [], ρ => some (.nx ρ)
  | d :: ds, ρ => (g d ρ).bind fun ρ1 => (b ρ1).bind fun o => match o with
    | .nx ρ' => forGo g b ds ρ'
    | .ct ρ' => forGo g b ds ρ'
    | .bk ρ' => some (.nx ρ')
    | .rt d => some (.rt d)
def sFor (fi : SI) (g : SG) (b : SS) : SS := fun ρ => (fi ρ).bind fun ds => forGo g b ds ρ
theorem s_for {tg iter : Expr} {body : List Stmt} {fi : SI} {g : SG} (hp : PassesOwn (model X.prog X.w) X.A X.env X.xe) (hc : X.calm = true) (hi : DI X tg iter false fi) (hg : DG X tg g) (hb : DB X rm body f)
    (hs : ∀ x, foldedSetIterable iter X.env x = pure x := by intro _; rfl) : DS X rm (.For tg iter body [] pos) (sFor fi g f) :=
  ⟨(ps_for hp hc hi.pi hg.pg hb.pss hs).imp fun D σ H ⟨G0, H0, G, ρ, o, s, e, q⟩ => by
    obtain ⟨ds, e1, e2⟩ := bind_some e
    refine ⟨G0, H0, G, ρ, ds, s, e1, fun G1 H1 J gx1 w => ?_⟩
    let St (i : Nat) (σi : L2.St) (Hi : Hp) : Prop := ∃ Gi ρi, Ex G1 Gi ∧ Sok X.K G0 H0 Gi ρi σi Hi ∧ i ≤ ds.length ∧ forGo g f (ds.drop i) ρi = some o
    refine ⟨fun i m σi Hi => m = ds.length - i ∧ St i σi Hi, ⟨_, rfl, G1, ρ, Ex.refl _, s.gx' gx1, Nat.zero_le _, e2⟩, ?_⟩
    rintro i m σi Hi ⟨rfl, Gi, ρi, eg, si, hi, hr⟩
    by_cases hlt : i < ds.length
    · refine .inr ⟨w.goes i Gi Hi hlt eg si.gx.gh si.gx.h, St (i + 1), fun σ' H' p => ⟨_, by omega, rfl, p⟩, fun y H' hy => ?_⟩
      have hd := List.getElem?_eq_getElem hlt
      obtain ⟨G3, gx3, rx⟩ := w.yields i _ Gi Hi y H' hd eg si.gx.gh si.gx.h hy
      rw [List.drop_eq_getElem_cons hlt] at hr
      obtain ⟨ρ1, e1, hr⟩ := bind_some hr
      obtain ⟨o1, e2, hr⟩ := bind_some hr
      refine ⟨G0, H0, G3, ρi, _, ρ1, si.gx' gx3, rx, e1, fun σ2 s2 => ⟨G0, H0, G3, ρ1, o1, s2, e2, ?_⟩⟩
      have eg3 := eg.trans gx3.g
      cases o1 with
      | nx ρ' => exact fun G' σ' H' e4 s4 => ⟨G', ρ', eg3.trans e4, s4, hlt, hr⟩
      | ct ρ' => exact fun G' σ' H' e4 s4 => ⟨G', ρ', eg3.trans e4, s4, hlt, hr⟩
      | bk ρ' =>
        cases hr
        exact fun G' σ' H' e4 s4 => q G' σ' H' (gx1.g.trans (eg3.trans e4)) s4
      | rt d =>
        cases hr
        exact q
    · have ei : i = ds.length := by omega
      subst ei
      rw [List.drop_length] at hr
      cases hr
      exact .inl ⟨w.stops Gi Hi eg si.gx.gh si.gx.h, q Gi σi Hi (gx1.g.trans eg) si⟩⟩
def whileGo (t : SB) (b : SS) : Nat → Rho → Option Out
  | 0, _ => none
  | n + 1, ρ => (t ρ).bind fun k => if k = true then (b ρ).bind fun o => match o with
    | .nx ρ' => whileGo t b n ρ'
    | .ct ρ' => whileGo t b n ρ'
    | .bk ρ' => some (.nx ρ')
    | .rt d => some (.rt d)
    else some (.nx ρ)
def sWhile (n : Nat) (t : SB) (b : SS) : SS := fun ρ => whileGo t b n ρ
theorem s_while (n : Nat) {body : List Stmt} (hp : PassesOwn (model X.prog X.w) X.A X.env X.xe) (hc : DT X c t) (hb : DB X rm body f) : DS X rm (.While c body [] pos) (sWhile n t f) :=
  ⟨(ps_while hp hc.pt hb.pss).imp fun D σ H ⟨G0, H0, G, ρ, o, s, e, q⟩ => by
    refine ⟨fun m σi Hi => ∃ Gi ρi, Ex G Gi ∧ Sok X.K G0 H0 Gi ρi σi Hi ∧ whileGo t f m ρi = some o, ⟨n, G, ρ, Ex.refl _, s, e⟩, ?_⟩
    rintro m σi Hi ⟨Gi, ρi, eg, si, hr⟩
    cases m with
    | zero => cases hr
    | succ m =>
      obtain ⟨k, e1, hr⟩ := bind_some hr
      refine ⟨G0, H0, Gi, ρi, k, si, e1, fun G2 H2 gx2 => ?_⟩
      cases k with
      | false =>
        cases hr
        exact iteF (q G2 σi H2 (eg.trans gx2.g) (si.gx' gx2))
      | true =>
        refine iteT ?_
        obtain ⟨o1, e2, hr⟩ := bind_some (show _ = some o from hr)
        refine ⟨fun σ' H' => ∃ Gj ρj, Ex G Gj ∧ Sok X.K G0 H0 Gj ρj σ' H' ∧ whileGo t f m ρj = some o, fun σ' H' ⟨Gj, ρj, p⟩ => ⟨m, Nat.lt_succ_self _, Gj, ρj, p⟩, G0, H0, G2, ρi, o1, si.gx' gx2, e2, ?_⟩
        have eg2 := eg.trans gx2.g
        cases o1 with
        | nx ρ' => exact fun G' σ' H' e4 s4 => ⟨G', ρ', eg2.trans e4, s4, hr⟩
        | ct ρ' => exact fun G' σ' H' e4 s4 => ⟨G', ρ', eg2.trans e4, s4, hr⟩
        | bk ρ' =>
          cases hr
          exact fun G' σ' H' e4 s4 => q G' σ' H' (eg2.trans e4) s4
        | rt d =>
          cases hr
          exact q⟩
end

/-! ### defs -/
def slotsOf : List Md → List PyData → Rho
  | .bor :: ms, d :: ds => .bor d :: slotsOf ms ds
  | .scr :: ms, d :: ds => .scr d :: slotsOf ms ds
  | _ :: ms, d :: ds => .val d :: slotsOf ms ds
  | _, _ => []
def runF (n : Nat) (rm : Md) (ms : List Md) (f : SS) : List PyData → Option PyData := fun ds =>
  if ds.length = ms.length then (f (slotsOf ms ds ++ List.replicate (n - ds.length) .un)).bind fun o => match o, rm with
    | .rt d, _ => some d
    | .nx _, .val => some .none
    | _, _ => none
  else none
/-- a def's promise -/
def spD (K : PySem.W.Frag) (rm : Md) (ms : List Md) (F : List PyData → Option PyData) : Sp := fun vs H Q _ =>
  vs.length = ms.length ∧ ∃ G ds d, Ex G H ∧ RMs K H H G H ms ds vs ∧ F ds = some d ∧ ∀ G' H' v, Gx G H G' H' → RM K H H rm G' H' d v → Q v H'
def ArgMd (ms : List Md) : Prop := ∀ m ∈ ms, m = .val ∨ m = .bor ∨ m = .scr
theorem slots_ok {K : PySem.W.Frag} {H G : Hp} : ∀ {ms : List Md} {ds : List PyData} {vs : List V}, ArgMd ms → RMs K H H G H ms ds vs → (slotsOf ms ds).length = vs.length ∧
    ∀ (i : Nat) (s : Slot), (slotsOf ms ds)[i]? = some s → SlotOk K (fun _ _ => False) H H G H s ((vs.map some)[i]?.getD none) ∧ (∀ d, s ≠ .own d) ∧ ∀ d, s ≠ .pin d
  | _, _, _, _, .nil => ⟨rfl, fun i s h => by simp [slotsOf] at h⟩
  | m :: ms, d :: ds, v :: vs, am, .cons h t => by
    obtain ⟨l, q⟩ := slots_ok (fun m hm => am m (List.mem_cons_of_mem _ hm)) t
    have hm := am m List.mem_cons_self
    rcases hm with rfl | rfl | rfl
    · refine ⟨congrArg (· + 1) l, fun i s hs => ?_⟩
      cases i with
      | zero =>
        cases hs
        exact ⟨.val h, ⟨fun d e => (by cases e), fun d e => (by cases e)⟩⟩
      | succ i => exact q i s hs
    · refine ⟨congrArg (· + 1) l, fun i s hs => ?_⟩
      cases i with
      | zero =>
        cases hs
        exact ⟨.bor h, ⟨fun d e => (by cases e), fun d e => (by cases e)⟩⟩
      | succ i => exact q i s hs
    · refine ⟨congrArg (· + 1) l, fun i s hs => ?_⟩
      cases i with
      | zero =>
        cases hs
        exact ⟨.scr h, ⟨fun d e => (by cases e), fun d e => (by cases e)⟩⟩
      | succ i => exact q i s hs
theorem RMs.len {K : PySem.W.Frag} {H0 Hs G H : Hp} : ∀ {ms : List Md} {ds : List PyData} {vs : List V}, RMs K H0 Hs G H ms ds vs → ds.length = ms.length ∧ vs.length = ms.length
  | _, _, _, .nil => ⟨rfl, rfl⟩
  | _, _, _, .cons _ t => ⟨congrArg (· + 1) t.len.1, congrArg (· + 1) t.len.2⟩
theorem fn_ok {P : Program} {w : World} {K : PySem.W.Frag} {mg : Str → Option Value} {base : Heap} {x qual : Str} {st : Stmt} {f : Addr} {fd : FuncData} {N ps : List Str} {k n : Nat} {ms : List Md} {rm : Md} {b : SS} (F : Fun K x qual st f fd) (S : FnScope N ps (defScope st))
    (hm : ms.length = ps.length) (hn : N.length = n) (am : ArgMd ms)
    (body : ∀ (cdv : Value) (A : Around) (outer : List Env) (s : Shared) (H : Hp) (E : XK), Room k (A.deeper (PyProof.Rows.envOfC qual (defScope st) s.heap.objs.size f cdv)) → DB (cxOf CX0 P w K mg base N qual (defScope st) f cdv A outer s H E).nox rm (defBody st) b) :
    FnOk P w K mg base CX0 (k + 1) f fd ps (spD K rm ms (runF n rm ms b)) := by
  subst hn
  refine F.ok S (fun vs H Q E h => h.1.trans hm) fun cdv A outer s H vs Q E hr h => ?_
  obtain ⟨hl, G, ds, d, eg, ra, hF, q⟩ := h
  refine ⟨_, (body cdv A outer s H E hr).pss, ?_⟩
  obtain ⟨l1, so⟩ := slots_ok am ra
  have hpl : ps.length ≤ N.length := by have := congrArg List.length S.pre; rw [List.length_take] at this; omega
  obtain ⟨hl2, hF⟩ := ite_some hF
  obtain ⟨o, e1, e2⟩ := bind_some hF
  have dv : ds.length = vs.length := hl2.trans hl.symm
  refine ⟨⟨G, H, fun _ => none, fun _ _ => False⟩, H, G, _, o, ⟨Gx.refl eg, ?_, fun i t ht => ?_, fun i j d1 d2 a hij h1 => ?_, fun i d h1 => ?_, Ex.refl _, fun i a vs h => (by cases h)⟩, e1, ?_⟩
  · unfold L2.start
    rw [List.length_append, List.length_append, List.length_map, List.length_replicate, List.length_replicate, l1, dv]
  · unfold L2.start
    by_cases hi : i < vs.length
    · rw [List.getElem?_append_left (by rw [l1]; exact hi)] at ht
      rw [List.getElem?_append_left (by simpa using hi)]
      exact (so i t ht).1
    · rw [List.getElem?_append_right (by rw [l1]; omega), List.getElem?_replicate] at ht
      split at ht
      · cases ht; exact .un
      · cases ht
  · exfalso
    by_cases hi : i < vs.length
    · rw [List.getElem?_append_left (by rw [l1]; exact hi)] at h1
      exact (so i _ h1).2.1 _ rfl
    · rw [List.getElem?_append_right (by rw [l1]; omega), List.getElem?_replicate] at h1
      split at h1 <;> cases h1
  · exfalso
    by_cases hi : i < vs.length
    · rw [List.getElem?_append_left (by rw [l1]; exact hi)] at h1
      exact (so i _ h1).2.2 _ rfl
    · rw [List.getElem?_append_right (by rw [l1]; omega), List.getElem?_replicate] at h1
      split at h1 <;> cases h1
  · cases o with
    | rt d' =>
      have e3 : d' = d := by cases rm <;> exact Option.some.inj e2
      subst e3
      exact fun G' H' v gx r => q G' H' v gx r
    | nx ρ' =>
      cases rm with
      | val =>
        have e3 : PyData.none = d := Option.some.inj e2
        subst e3
        exact fun G' σ' H' _ s' => q G' H' .non s'.gx .non
      | _ => cases e2
    | bk _ => cases rm <;> cases e2
    | ct _ => cases rm <;> cases e2
/-! ### calls -/
def eCall (F : List PyData → Option PyData) (r : SA) : SE := fun ρ => (r ρ).bind F
theorem RMs.call {K : PySem.W.Frag} {H0 Hs G H : Hp} : ∀ {ms : List Md} {ds : List PyData} {vs : List V}, ArgMd ms → RMs K H0 Hs G H ms ds vs → RMs K H H G H ms ds vs
  | _, _, _, _, .nil => .nil
  | m :: _, _, _, am, .cons h t => by
    refine .cons ?_ (RMs.call (fun m hm => am m (List.mem_cons_of_mem _ hm)) t)
    rcases am m List.mem_cons_self with rfl | rfl | rfl
    · exact h
    · exact h
    · exact h
section
variable {X : Cx} {rm : Md} {ms : List Md} {e : Expr} {es : List Expr} {r : SA} {pos p : Pos} {x : Str} {k : Nat} {f : Addr} {fd : FuncData} {ps : List Str} {Fn : List PyData → Option PyData}
theorem call_of {K : PySem.W.Frag} (hr : rm = .val ∨ rm = .new) (am : ArgMd ms) : ∀ σ H Q, tE K rm (eCall Fn r) σ H Q → tCall (spD K rm ms Fn) [] E0 (tA K ms r) σ H Q := fun σ H Q ⟨G0, H0, G, ρ, d, s, ed, q⟩ => by
  obtain ⟨ds, e1, e2⟩ := bind_some ed
  refine ⟨G0, H0, G, ρ, ds, s, e1, fun G' H' vs gx ra => ?_⟩
  show spD K rm ms Fn (vs ++ []) H' Q E0
  rw [List.append_nil]
  refine ⟨ra.len.2, G', ds, d, gx.gh, ra.call am, e2, fun G2 H2 v gx2 r2 => q G2 H2 v (gx.trans gx2) ?_⟩
  rcases hr with rfl | rfl
  · exact r2
  · exact RM.start gx.h r2
theorem d_call (F : FnOk X.prog X.w X.K X.mg X.base CX0 k f fd ps (spD X.K rm ms Fn)) (hr : Room k X.A) (hg : Gl X x) (hm : X.mg x = some (.ref f)) (hk : PySem.W.keepIn X.K (.ref f) = true) (hb : Binds X.K fd ps [])
    (ha : DA X ms (e :: es) r) (hrm : rm = .val ∨ rm = .new := by first | exact Or.inl rfl | exact Or.inr rfl) (am : ArgMd ms) (hdb : (x == ("__debug__" : Str)) = false := by decide) (he : starEach (e :: es) X.env = (false, eval e X.env) :: starEach es X.env := by rfl) (hpl : (backTo pos (starEach es X.env)).any (·.1) = false := by rfl) :
    DX X rm (.Call (.Name x p) (e :: es) [] pos) (eCall Fn r) :=
  ⟨(pe_call F hr hg hm hk hb .nil pass0 ha.pa hdb he hpl).imp (call_of hrm am)⟩
theorem d_call0 (F : FnOk X.prog X.w X.K X.mg X.base CX0 k f fd ps (spD X.K rm [] Fn)) (hr : Room k X.A) (hg : Gl X x) (hm : X.mg x = some (.ref f)) (hk : PySem.W.keepIn X.K (.ref f) = true) (hb : Binds X.K fd ps [])
    (hrm : rm = .val ∨ rm = .new := by first | exact Or.inl rfl | exact Or.inr rfl) (hdb : (x == ("__debug__" : Str)) = false := by decide) :
    DX X rm (.Call (.Name x p) [] [] pos) (eCall Fn aNil) :=
  ⟨(pe_call0 F hr hg hm hk hb .nil pass0 hdb).imp fun σ H Q h => by
    obtain ⟨G0, H0, G, ρ, ds, s, e1, q⟩ := call_of hrm (fun m hm => absurd hm List.not_mem_nil) σ H Q h
    cases e1
    exact q G H [] (Gx.refl s.gx.gh) .nil⟩
end
/-! ### a def that stands in the module, in one place -/
def Fn1 (P : Program) (w : World) (K : PySem.W.Frag) (mg : Str → Option Value) (base : Heap) (x : Str) (ps : List Str) (k : Nat) (rm : Md) (ms : List Md) (F : List PyData → Option PyData) : Prop :=
  ∃ (f : Addr) (fd : FuncData), FnOk P w K mg base CX0 k f fd ps (spD K rm ms F) ∧ mg x = some (.ref f) ∧ PySem.W.keepIn K (.ref f) = true ∧ Binds K fd ps []
section
variable {X : Cx} {rm : Md} {ms : List Md} {e : Expr} {es : List Expr} {r : SA} {pos p : Pos} {x : Str} {k : Nat} {ps : List Str} {Fn : List PyData → Option PyData}
theorem d_fn (F : Fn1 X.prog X.w X.K X.mg X.base x ps k rm ms Fn) (hr : Room k X.A) (ha : DA X ms (e :: es) r) (am : ArgMd ms) (hrm : rm = .val ∨ rm = .new := by first | exact Or.inl rfl | exact Or.inr rfl) (hg : Gl X x := by rfl) (hdb : (x == ("__debug__" : Str)) = false := by decide) (he : starEach (e :: es) X.env = (false, eval e X.env) :: starEach es X.env := by rfl) (hpl : (backTo pos (starEach es X.env)).any (·.1) = false := by rfl) :
    DX X rm (.Call (.Name x p) (e :: es) [] pos) (eCall Fn r) := by
  obtain ⟨f, fd, F, hm, hk, hb⟩ := F
  exact d_call F hr hg hm hk hb ha hrm am hdb he hpl
theorem d_fn0 (F : Fn1 X.prog X.w X.K X.mg X.base x ps k rm [] Fn) (hr : Room k X.A) (hrm : rm = .val ∨ rm = .new := by first | exact Or.inl rfl | exact Or.inr rfl) (hg : Gl X x := by rfl) (hdb : (x == ("__debug__" : Str)) = false := by decide) :
    DX X rm (.Call (.Name x p) [] [] pos) (eCall Fn aNil) := by
  obtain ⟨f, fd, F, hm, hk, hb⟩ := F
  exact d_call0 F hr hg hm hk hb hrm hdb
end
theorem am_nil : ArgMd [] := fun m hm => absurd hm List.not_mem_nil
theorem am_val {ms : List Md} (h : ArgMd ms) : ArgMd (.val :: ms) := fun m hm => (List.mem_cons.mp hm).elim (fun e => .inl e) (h m)
theorem am_bor {ms : List Md} (h : ArgMd ms) : ArgMd (.bor :: ms) := fun m hm => (List.mem_cons.mp hm).elim (fun e => .inr (.inl e)) (h m)
theorem am_scr {ms : List Md} (h : ArgMd ms) : ArgMd (.scr :: ms) := fun m hm => (List.mem_cons.mp hm).elim (fun e => .inr (.inr e)) (h m)
theorem v_nil : ∀ m ∈ ([] : List Md), m = .val := fun m hm => absurd hm List.not_mem_nil
theorem v_cons {ms : List Md} (h : ∀ m ∈ ms, m = .val) : ∀ m ∈ Md.val :: ms, m = .val := fun m hm => (List.mem_cons.mp hm).elim id (h m)
theorem b_nil' : ∀ m ∈ ([] : List Md), m = .bor := fun m hm => absurd hm List.not_mem_nil
theorem b_cons' {ms : List Md} (h : ∀ m ∈ ms, m = .bor) : ∀ m ∈ Md.bor :: ms, m = .bor := fun m hm => (List.mem_cons.mp hm).elim id (h m)
theorem bor1 : ∀ m ∈ [Md.bor], m = .bor := b_cons' b_nil'
theorem bor2 : ∀ m ∈ [Md.bor, Md.bor], m = .bor := b_cons' bor1
/-- the law's promise from its function -/
theorem law_sp {K : PySem.W.Frag} {H : Hp} {a : Addr} {ns : List Int} {F : List PyData → Option PyData} (hS : SqL K H a (ns.map V.int)) (h : F [.list (ns.map .int)] = some (.bool true)) :
    spD K .val [.scr] F [.ref a] H (fun v _ => v = .bl true) fun _ _ _ => False := by
  have e0 : Ex (fun _ => none) H := fun b o z => by
    have z' : (none : Option HO) = some o := z
    cases z'
  refine ⟨rfl, fun _ => none, [.list (ns.map .int)], .bool true, e0, RMs.cons (m := .scr) ⟨a, ns, rfl, rfl, hS⟩ RMs.nil, h, fun G' H' v _ r => ?_⟩
  cases (show Rep K G' (.bool true) v from r)
  rfl
end DV

namespace DV
open PySem L2

/-! ### data read from values -/
section
variable {K : PySem.W.Frag} {G H : Hp}
mutual
theorem Rep.dp (e : Ex G H) : ∀ {d : PyData} {v : V}, d.canLay0 = true → Rep K G d v → Dp K H v d
  | _, _, _, .non => .non
  | _, _, _, .bl b => .bl b
  | _, _, _, .int i => .int i
  | _, _, _, .str x => .str x
  | _, _, c, .lst h r => .lst (.inl (e.rd h)) (RepA.dp e (by simpa [PyData.canLay0] using c) r)
  | _, _, c, .tup h r => .tup (e.sqt (sqtOf h)) (RepA.dp e (by simpa [PyData.canLay0] using c) r)
  | _, _, c, .dK h k r => by simp [PyData.canLay0] at c
  | _, _, c, .dT h k r => by simp [PyData.canLay0] at c
theorem RepA.dp (e : Ex G H) : ∀ {ds : List PyData} {vs : List V}, PyData.canLayAll0 ds = true → RepA K G ds vs → DpAll K H vs ds
  | _, _, _, .nil => .nil
  | d :: ds, _, c, .cons h r => by
    have c' : d.canLay0 = true ∧ PyData.canLayAll0 ds = true := by simpa [PyData.canLayAll0] using c
    exact .cons (Rep.dp e c'.1 h) (RepA.dp e c'.2 r)
end
theorem RepB.dp (e : Ex G H) {d : PyData} {v : V} (c : d.canLay0 = true) (h : RepB K G H d v) : Dp K H v d := by
  cases h with
  | val h => exact h.dp e c
  | lst h r => exact .lst (SqL.of h) (r.dp e (by simpa [PyData.canLay0] using c))
  | dK h k r => simp [PyData.canLay0] at c
  | dT h k r => simp [PyData.canLay0] at c
/-- a scalar's result -/
theorem scalar {m : Md} (hm : m = .val ∨ m = .bor) {d : PyData} {v : V} (r : Rep K G d v) : ∀ H0, RM K H0 H m G H d v := fun H0 => by
  rcases hm with rfl | rfl
  · exact r
  · exact .val r
end

/-! ### numbers -/
section
variable {K : PySem.W.Frag} {X : Cx}
def int2 (g : Int → Int → Option PyData) : PyData → PyData → Option PyData
  | .int i, .int j => g i j
  | _, _ => none
theorem int2_some {g : Int → Int → Option PyData} {d1 d2 d : PyData} (h : int2 g d1 d2 = some d) : ∃ i j, d1 = .int i ∧ d2 = .int j ∧ g i j = some d := by
  unfold int2 at h
  split at h
  · exact ⟨_, _, rfl, rfl, h⟩
  · cases h
/-- two ints under a condition give an int -/
def intIf (C : Int → Int → Prop) [∀ i j, Decidable (C i j)] (g : Int → Int → Int) : PyData → PyData → Option PyData := int2 fun i j => if C i j then some (.int (g i j)) else none
theorem opf_intIf (C : Int → Int → Prop) [∀ i j, Decidable (C i j)] (g : Int → Int → Int) : OpF K .val (rI C fun i j => .int (g i j)) (intIf C g) := fun G H d1 d2 d x y Q e r1 r2 h q => by
  obtain ⟨i, j, rfl, rfl, h⟩ := int2_some h
  obtain ⟨c, rfl⟩ := if_some h
  cases r1.int
  cases r2.int
  exact ⟨i, j, rfl, rfl, c, q G H _ (Gx.refl e) fun _ => .int _⟩
def oSub : PyData → PyData → Option PyData := int2 fun i j => some (.int (i - j))
theorem opf_sub : OpF K .val (rI0 fun i j => .int (i - j)) oSub := fun G H d1 d2 d x y Q e r1 r2 h q => by
  obtain ⟨i, j, rfl, rfl, h⟩ := int2_some h
  cases h
  cases r1.int
  cases r2.int
  exact ⟨i, j, rfl, rfl, q G H _ (Gx.refl e) fun _ => .int _⟩
instance (i j : Int) : Decidable (CDivW i j) := by unfold CDivW; exact inferInstance
instance (i j : Int) : Decidable (CPow i j) := by unfold CPow; exact inferInstance
instance (i j : Int) : Decidable (CMul i j) := by unfold CMul; exact inferInstance
instance (j : Int) : Decidable (0 < j ∧ j < 18446744073709551616) := inferInstance
def oFdiv := intIf (fun _ j => 0 < j ∧ j < 18446744073709551616) fun i j => i / j
theorem opf_fdiv : OpF K .val (rI CDivW fun i j => .int (i / j)) oFdiv := fun G H d1 d2 d x y Q e r1 r2 h q => by
  obtain ⟨i, j, rfl, rfl, h⟩ := int2_some h
  obtain ⟨c, rfl⟩ := if_some h
  cases r1.int
  cases r2.int
  exact ⟨i, j, rfl, rfl, wide_div (b := 64) c.1 (by omega) (by decide) (by decide), q G H _ (Gx.refl e) fun _ => .int _⟩
def oMod := intIf (fun _ j => 0 < j) fun i j => i % j
def oPow := intIf CPow fun i j => i ^ j.toNat
def oNeg : PyData → Option PyData
  | .int i => some (.int (-i))
  | _ => none
theorem unf_neg : UnF K .val (rU fun i => .int (-i)) oNeg := fun G H d1 d x Q e r1 h q => by
  unfold oNeg at h
  split at h
  · cases h
    cases r1.int
    exact ⟨_, rfl, q G H _ (Gx.refl e) fun _ => .int _⟩
  · cases h
def cmpI (p : Int → Int → Bool) : PyData → PyData → Option PyData := int2 fun i j => some (.bool (p i j))
theorem opf_cmpI (p : Int → Int → Bool) : OpF K .val (rI0 fun i j => .bl (p i j)) (cmpI p) := fun G H d1 d2 d x y Q e r1 r2 h q => by
  obtain ⟨i, j, rfl, rfl, h⟩ := int2_some h
  cases h
  cases r1.int
  cases r2.int
  exact ⟨i, j, rfl, rfl, q G H _ (Gx.refl e) fun _ => .bl _⟩
def oLt := cmpI fun i j => decide (i < j)
def oLe := cmpI fun i j => decide (i ≤ j)
def oGt := cmpI fun i j => decide (j < i)
def oGe := cmpI fun i j => decide (j ≤ i)

/-! ### +, * on any kind -/
def rOr (r r' : R2) : R2 := fun x y H Q => r x y H Q ∨ r' x y H Q
theorem OpR.or {f : Value → Value → Sem Value} {r r' : R2} (h : OpR X f r) (h' : OpR X f r') : OpR X f (rOr r r') := by
  intro pins s σ H x y v u Q I rx ry q
  rcases q with q | q
  · exact h pins s σ H x y v u Q I rx ry q
  · exact h' pins s σ H x y v u Q I rx ry q
def oAdd : PyData → PyData → Option PyData
  | .int i, .int j => some (.int (i + j))
  | .str x, .str y => if x.length + y.length ≤ sizeLine then some (.str (x ++ y)) else none
  | .list xs, .list ys => if xs.length + ys.length ≤ sizeLine then some (.list (xs ++ ys)) else none
  | _, _ => none
def oCat : PyData → PyData → Option PyData
  | .list xs, .list ys => if xs.length + ys.length ≤ sizeLine then some (.list (xs ++ ys)) else none
  | _, _ => none
def rLstCat : R2 := fun x y H Q => ∃ l b xs zs, x = .ref l ∧ y = .ref b ∧ Rd H l (.lst xs) ∧ Rd H b (.lst zs) ∧ xs.length + zs.length ≤ sizeLine ∧ ∀ p, H p = none → Q (.ref p) (upd H p (.lst (xs ++ zs)))
theorem rd_lst {pins : List (Addr × Obj)} {σ : L2.St} {H : Hp} {s : Shared} {l : Addr} {xs : List V} (I : Inv X pins σ H s) (h : Rd H l (.lst xs)) :
    xs.length ≤ sizeLine ∧ ∃ (its : List Value) (n : Nat), Vals xs its ∧ xs.length = its.length ∧ s.heap.get? l = some { cls := .type "list", data := .seq its.toArray n } := by
  obtain ⟨z, its, n, r, e⟩ := h.ok I.hok
  exact ⟨z, its, n, r, r.length, e⟩
theorem op_lstCat : OpR X (binaryOp .Add) rLstCat := by
  intro pins s σ H x y v u Q I rx ry h
  obtain ⟨l, b, xs, zs, rfl, rfl, hH, hB, hz, q⟩ := h
  cases rx
  cases ry
  obtain ⟨z, its, n, r, hl, e⟩ := rd_lst I hH
  obtain ⟨z2, its2, n2, r2, hl2, e2⟩ := rd_lst I hB
  refine PySem.P.add_list e e2 ?_ (by rw [List.size_toArray, List.size_toArray]; omega)
  have ea : its.toArray ++ its2.toArray = (its ++ its2).toArray := by simp
  rw [ea]
  exact ⟨.ref _, _, I.lnew (t' := s.toks) (r.append r2) (by rw [List.length_append]; omega), rfl, q _ I.fresh⟩
theorem RepB.rd {G H : Hp} (e : Ex G H) {ds : List PyData} {v : V} (h : RepB K G H (.list ds) v) : ∃ a vs, v = .ref a ∧ Rd H a (.lst vs) ∧ RepA K G ds vs := by
  obtain ⟨a, vs, h1, st, r⟩ := h.seq
  exact ⟨a, vs, h1, st H e (Ex.refl _), r⟩
/-- a new list as a value: frozen, or own -/
theorem newList {m : Md} (hm : m = .val ∨ m = .new) {G H : Hp} (e : Ex G H) {p : Addr} (np : H p = none) {ds : List PyData} {vs : List V} (r : RepA K G ds vs) {Q : VK}
    (q : ∀ G' H' v, Gx G H G' H' → (∀ H0, RM K H0 H m G' H' (.list ds) v) → Q v H') : Q (.ref p) (upd H p (.lst vs)) := by
  rcases hm with rfl | rfl
  · exact q _ _ _ (Gx.new e np) fun _ => .lst (.inl upd_same) (r.mono (Ex.new (e.back np)))
  · exact q _ _ _ (Gx.mine e np) fun _ => ⟨p, rfl, np, e.back np, .lst upd_same r⟩
theorem opf_cat {m : Md} (hm : m = .val ∨ m = .new) : OpF K m rLstCat oCat := fun G H d1 d2 d x y Q e r1 r2 h q => by
  unfold oCat at h
  split at h
  · obtain ⟨hl, rfl⟩ := if_some h
    obtain ⟨a, vs, rfl, h1, ra⟩ := r1.rd e
    obtain ⟨b, us, rfl, h2, rb⟩ := r2.rd e
    exact ⟨a, b, vs, us, rfl, rfl, h1, h2, by rw [← ra.len, ← rb.len]; exact hl, fun p np => newList hm e np (ra.app rb) q⟩
  · cases h
def rAddAll : R2 := rOr (rI0 fun i j => .int (i + j)) (rOr (fun x y H Q => ∃ i j, x = .str i ∧ y = .str j ∧ i.length + j.length ≤ sizeLine ∧ Q (.str (i ++ j)) H) rLstCat)
theorem op_addAll : OpR X (binaryOp .Add) rAddAll := OpR.or op_add (OpR.or op_add_str op_lstCat)
theorem opf_addAll : OpF K .val rAddAll oAdd := fun G H d1 d2 d x y Q e r1 r2 h q => by
  unfold oAdd at h
  split at h
  · cases h
    cases r1.int
    cases r2.int
    exact .inl ⟨_, _, rfl, rfl, q G H _ (Gx.refl e) fun _ => .int _⟩
  · obtain ⟨hl, rfl⟩ := if_some h
    cases r1.str
    cases r2.str
    exact .inr (.inl ⟨_, _, rfl, rfl, hl, q G H _ (Gx.refl e) fun _ => .str _⟩)
  · exact .inr (.inr (opf_cat (.inl rfl) G H _ _ d x y Q e r1 r2 h q))
  · cases h
def repS (x : Str) (n : Nat) : Str := ⟨(List.replicate n x.cps.toList).flatten.toArray⟩
def oMul : PyData → PyData → Option PyData
  | .int i, .int j => if CMul i j then some (.int (i * j)) else none
  | .str x, .int n => if 0 ≤ n ∧ n ≤ 1000 ∧ x.length ≤ 10000 then some (.str (repS x n.toNat)) else none
  | .list xs, .int n => if 0 ≤ n ∧ n ≤ 1000 ∧ xs.length ≤ 10000 then some (.list (List.replicate n.toNat xs).flatten) else none
  | _, _ => none
theorem mulOk (x : Str) (n : Int) (h : 0 ≤ n ∧ n ≤ 1000 ∧ x.length ≤ 10000) : MulOk x n := by
  obtain ⟨h0, h1, h2⟩ := h
  refine ⟨?_, fun hn _ => ?_, fun hn _ => ?_⟩
  · rw [Bool.or_eq_false_iff]; exact ⟨decide_eq_false (by omega), decide_eq_false (by omega)⟩
  · have : (10000 : Int) ≤ (2 ^ 63 - 1) / n := Int.le_ediv_of_mul_le (by omega) (by omega)
    omega
  · unfold Builtin.Str.tooLong
    have : x.length * n.toNat ≤ 10000 * 1000 := Nat.mul_le_mul h2 (by omega)
    rw [sizeLine_eq]
    exact decide_eq_false (by omega)
theorem foldl_cps (l : List Nat) : ∀ (k : Nat) (acc : List Nat), List.foldl (fun x1 x2 => x1 ++ x2) acc.toArray (List.replicate k l.toArray) = (acc ++ (List.replicate k l).flatten).toArray
  | 0, acc => by simp
  | k + 1, acc => by
    have e : acc.toArray ++ l.toArray = (acc ++ l).toArray := by simp
    have e2 : (acc ++ l) ++ (List.replicate k l).flatten = acc ++ (List.replicate (k + 1) l).flatten := by
      rw [List.replicate_succ, List.flatten_cons, List.append_assoc]
    rw [← e2, ← foldl_cps l k (acc ++ l), ← e, List.replicate_succ, List.foldl_cons]
theorem mul_repS (x : Str) (n : Int) (h : 0 ≤ n) : Txt.mul x n = repS x n.toNat := by
  unfold Txt.mul repS
  by_cases h1 : n < 1
  · have : n = 0 := by omega
    subst this
    rw [if_pos h1]; rfl
  · rw [if_neg h1]
    by_cases h2 : (n == 1 || x.length == 0) = true
    · rw [if_pos h2]
      rw [Bool.or_eq_true] at h2
      rcases h2 with h2 | h2
      · have : n = 1 := eq_of_beq h2
        subst this
        obtain ⟨c⟩ := x
        simp
      · have h3 : x.cps.size = 0 := eq_of_beq h2
        obtain ⟨c⟩ := x
        have : c = #[] := by simpa using h3
        subst this
        simp
    · rw [if_neg h2]
      have := foldl_cps x.cps.toList n.toNat []
      simp only [Array.toArray_toList, List.nil_append] at this
      rw [← this]
def rMulS : R2 := fun x y H Q => ∃ z n, x = .str z ∧ y = .int n ∧ (0 ≤ n ∧ n ≤ 1000 ∧ z.length ≤ 10000) ∧ Q (.str (repS z n.toNat)) H
theorem op_mulS : OpR X (binaryOp .Mult) rMulS := by
  intro pins s σ H x y v u Q I rx ry h
  obtain ⟨z, n, rfl, rfl, hz, q⟩ := h
  obtain ⟨t, rfl⟩ := rx
  obtain ⟨t', rfl⟩ := ry
  refine SB.mul (mulOk z n hz) fun t2 k => ?_
  rw [mul_repS z n hz.1]
  exact ⟨.str _, H, I.tok _, ⟨_, rfl⟩, q⟩
def rMulL : R2 := fun x y H Q => ∃ l k xs, x = .ref l ∧ y = .int k ∧ H l = some (.lst xs) ∧ -(2 ^ 63) ≤ k ∧ k < 2 ^ 63 ∧ xs.length * k.toNat ≤ sizeLine ∧ ∀ p, H p = none → Q (.ref p) (upd H p (.lst (List.replicate k.toNat xs).flatten))
def rMulAll : R2 := rOr (rI CMul fun i j => .int (i * j)) rMulS
def oMulS : PyData → PyData → Option PyData
  | .int i, .int j => if CMul i j then some (.int (i * j)) else none
  | .str x, .int n => if 0 ≤ n ∧ n ≤ 1000 ∧ x.length ≤ 10000 then some (.str (repS x n.toNat)) else none
  | _, _ => none
theorem op_mulAll : OpR X (binaryOp .Mult) rMulAll := OpR.or op_mul op_mulS
theorem opf_mulAll : OpF K .val rMulAll oMulS := fun G H d1 d2 d x y Q e r1 r2 h q => by
  unfold oMulS at h
  split at h
  · obtain ⟨c, rfl⟩ := if_some h
    cases r1.int
    cases r2.int
    exact .inl ⟨_, _, rfl, rfl, c, q G H _ (Gx.refl e) fun _ => .int _⟩
  · obtain ⟨c, rfl⟩ := if_some h
    cases r1.str
    cases r2.int
    exact .inr ⟨_, _, rfl, rfl, c, q G H _ (Gx.refl e) fun _ => .str _⟩
  · cases h

/-! ### ==, in, is -/
def oEq (a b : PyData) : Option PyData := if SeqAt.shaped a = true ∧ SeqAt.shaped b = true then some (.bool (PyData.eqv a b)) else none
def oNe (a b : PyData) : Option PyData := if SeqAt.shaped a = true ∧ SeqAt.shaped b = true then some (.bool (!PyData.eqv a b)) else none
theorem opf_eq : OpF K .val (rEqD K) oEq := fun G H d1 d2 d x y Q e r1 r2 h q => by
  obtain ⟨⟨c1, c2⟩, rfl⟩ := if_some h
  exact ⟨d1, d2, r1.dp e (SeqAt.canLay_of_shaped c1), r2.dp e (SeqAt.canLay_of_shaped c2), c1, c2, q G H _ (Gx.refl e) fun _ => .bl _⟩
theorem opf_ne : OpF K .val (rNeD K) oNe := fun G H d1 d2 d x y Q e r1 r2 h q => by
  obtain ⟨⟨c1, c2⟩, rfl⟩ := if_some h
  exact ⟨d1, d2, r1.dp e (SeqAt.canLay_of_shaped c1), r2.dp e (SeqAt.canLay_of_shaped c2), c1, c2, q G H _ (Gx.refl e) fun _ => .bl _⟩
def isNon : PyData → Bool
  | .none => true
  | _ => false
def oIsN (a b : PyData) : Option PyData := match b with
  | .none => some (.bool (isNon a))
  | _ => none
def oNotN (a b : PyData) : Option PyData := match b with
  | .none => some (.bool (!isNon a))
  | _ => none
theorem isN_dec {G H : Hp} {d : PyData} {v : V} (r : RepB K G H d v) : decide (v = .non) = isNon d := by
  cases r with
  | val r => cases r <;> rfl
  | lst _ _ => rfl
  | dK _ _ _ => rfl
  | dT _ _ _ => rfl
theorem opf_isN : OpF K .val (fun x y H Q => y = .non ∧ Q (.bl (decide (x = .non))) H) oIsN := fun G H d1 d2 d x y Q e r1 r2 h q => by
  unfold oIsN at h
  split at h
  · cases h
    cases r2.non
    exact ⟨rfl, q G H _ (Gx.refl e) fun _ => by rw [isN_dec r1]; exact .bl _⟩
  · cases h
theorem opf_notN : OpF K .val (fun x y H Q => y = .non ∧ Q (.bl (!decide (x = .non))) H) oNotN := fun G H d1 d2 d x y Q e r1 r2 h q => by
  unfold oNotN at h
  split at h
  · cases h
    cases r2.non
    exact ⟨rfl, q G H _ (Gx.refl e) fun _ => by rw [isN_dec r1]; exact .bl _⟩
  · cases h
def oIsB (a b : PyData) : Option PyData := match a, b with
  | .bool x, .bool y => some (.bool (decide (x = y)))
  | _, _ => none
def oNotB (a b : PyData) : Option PyData := match a, b with
  | .bool x, .bool y => some (.bool (!decide (x = y)))
  | _, _ => none
theorem opf_isB : OpF K .val rIsB oIsB := fun G H d1 d2 d x y Q e r1 r2 h q => by
  unfold oIsB at h
  split at h
  · cases h
    cases r1.bl
    cases r2.bl
    exact ⟨_, _, rfl, rfl, q G H _ (Gx.refl e) fun _ => .bl _⟩
  · cases h
theorem opf_notB : OpF K .val rNotB oNotB := fun G H d1 d2 d x y Q e r1 r2 h q => by
  unfold oNotB at h
  split at h
  · cases h
    cases r1.bl
    cases r2.bl
    exact ⟨_, _, rfl, rfl, q G H _ (Gx.refl e) fun _ => .bl _⟩
  · cases h
/-- a sign in a text -/
def oInS (a b : PyData) : Option PyData := match a, b with
  | .str x, .str y => if x.cps.size = 1 then some (.bool (decide (x.cps.getD 0 0 ∈ y.cps.toList))) else none
  | _, _ => none
def oNotInS (a b : PyData) : Option PyData := match a, b with
  | .str x, .str y => if x.cps.size = 1 then some (.bool (!decide (x.cps.getD 0 0 ∈ y.cps.toList))) else none
  | _, _ => none
theorem one_sign {x : Str} (h : x.cps.size = 1) : x = ⟨#[x.cps.getD 0 0]⟩ := by
  obtain ⟨⟨l⟩⟩ := x
  match l, h with
  | [c], _ => rfl
theorem opf_inS : OpF K .val (fun x y H Q => ∃ (c : Nat) (z : Str), x = .str ⟨#[c]⟩ ∧ y = .str z ∧ Q (.bl (decide (c ∈ z.cps.toList))) H) oInS := fun G H d1 d2 d x y Q e r1 r2 h q => by
  unfold oInS at h
  split at h
  · obtain ⟨c, rfl⟩ := if_some h
    cases r1.str
    cases r2.str
    exact ⟨_, _, congrArg _ (one_sign c), rfl, q G H _ (Gx.refl e) fun _ => .bl _⟩
  · cases h
theorem opf_notInS : OpF K .val (fun x y H Q => ∃ (c : Nat) (z : Str), x = .str ⟨#[c]⟩ ∧ y = .str z ∧ Q (.bl (!decide (c ∈ z.cps.toList))) H) oNotInS := fun G H d1 d2 d x y Q e r1 r2 h q => by
  unfold oNotInS at h
  split at h
  · obtain ⟨c, rfl⟩ := if_some h
    cases r1.str
    cases r2.str
    exact ⟨_, _, congrArg _ (one_sign c), rfl, q G H _ (Gx.refl e) fun _ => .bl _⟩
  · cases h
end
end DV

namespace DV
open PySem L2

/-! ### subscripts and slices -/
section
variable {K : PySem.W.Frag} {X : Cx} {a b e : Expr} {f g : SE} {m : Md} {pos p2 : Pos} {lo hi : Option Expr}
theorem RepA.atI {G : Hp} {ds : List PyData} {vs : List V} {i : Int} {d : PyData} (r : RepA K G ds vs) (h : L2.atI ds i = some d) : ∃ v, L2.atI vs i = some v ∧ Rep K G d v := by
  unfold L2.atI at h ⊢
  rw [r.len] at h
  cases e : ixN vs.length i with
  | none => rw [e] at h; cases h
  | some j => rw [e] at h; exact r.get h
def oIx : PyData → PyData → Option PyData
  | .list ds, .int i => atI ds i
  | .tuple ds, .int i => atI ds i
  | .str z, .int i => if z.length ≤ sizeLine then (atI z.cps.toList i).map fun c => .str ⟨#[c]⟩ else none
  | _, _ => none
theorem oIx_inv : ∀ {d1 d2 d : PyData}, oIx d1 d2 = some d → ∃ i, d2 = .int i ∧ ((∃ l, d1 = .list l ∧ atI l i = some d) ∨ (∃ l, d1 = .tuple l ∧ atI l i = some d) ∨ ∃ z c, d1 = .str z ∧ z.length ≤ sizeLine ∧ atI z.cps.toList i = some c ∧ d = .str ⟨#[c]⟩)
  | .list l, .int i, d, h => ⟨i, rfl, .inl ⟨l, rfl, h⟩⟩
  | .tuple l, .int i, d, h => ⟨i, rfl, .inr (.inl ⟨l, rfl, h⟩)⟩
  | .str z, .int i, d, h => by
    obtain ⟨hl, h⟩ := ite_some (show (if z.length ≤ sizeLine then (atI z.cps.toList i).map fun c => PyData.str ⟨#[c]⟩ else none) = some d from h)
    cases h2 : atI z.cps.toList i with
    | none => rw [h2] at h; cases h
    | some c =>
      rw [h2] at h
      cases h
      exact ⟨i, rfl, .inr (.inr ⟨z, c, rfl, hl, h2, rfl⟩)⟩
theorem opf_ix : OpF K .val (rIx K) oIx := fun G H d1 d2 d x y Q e r1 r2 h q => by
  obtain ⟨i, rfl, ⟨l, rfl, h⟩ | ⟨l, rfl, h⟩ | ⟨z, c, rfl, hl, h7, rfl⟩⟩ := oIx_inv h
  · cases r2.int
    obtain ⟨a, vs, rfl, h1, ra⟩ := r1.rd e
    obtain ⟨v, h2, h3⟩ := ra.atI h
    exact .inl ⟨a, vs, _, v, rfl, rfl, .inl h1, h2, q G H _ (Gx.refl e) fun _ => h3⟩
  · cases r2.int
    obtain ⟨a, vs, rfl, h1, ra⟩ := r1.seqT
    obtain ⟨v, h2, h3⟩ := ra.atI h
    exact .inr (.inl ⟨a, vs, _, v, rfl, rfl, h1 H e, h2, q G H _ (Gx.refl e) fun _ => h3⟩)
  · cases r2.int
    cases r1.str
    exact .inr (.inr ⟨_, _, c, rfl, rfl, hl, h7, q G H _ (Gx.refl e) fun _ => .str _⟩)
theorem d_ix (ha : DX X .bor a f) (hb : DX X .bor b g) (hs : PlainIx b := by intro _ _; rfl) : DX X .val (.Subscript a b pos) (eOp oIx f g) :=
  ⟨(pe_ix ix_seq ha.pe hb.pe hs).imp fun _ _ _ q => op_two opf_ix q⟩
/-- an item of the script -/
theorem d_ixS (ha : DX X .scr a f) (hb : DX X .val b g) (hs : PlainIx b := by intro _ _; rfl) : DX X .val (.Subscript a b pos) (eOp oIx f g) :=
  ⟨(pe_ix ix_list ha.pe hb.pe hs).imp fun σ H Q ⟨G0, H0, G, ρ, d, s, ed, q⟩ => by
    obtain ⟨d1, e1, ed⟩ := bind_some ed
    obtain ⟨d2, e2, ed⟩ := bind_some ed
    refine ⟨G0, H0, G, ρ, d1, s, e1, fun G1 H1 x gx1 r1 => ⟨G0, H0, G1, ρ, d2, s.gx' gx1, e2, fun G2 H2 y gx2 r2 => ?_⟩⟩
    obtain ⟨p, ns, rfl, rfl, hq⟩ := RepS.mono gx2.h r1
    obtain ⟨i, rfl, ⟨l, hl, h⟩ | ⟨l, hl, h⟩ | ⟨z, c, hl, _⟩⟩ := oIx_inv ed
    · cases hl
      cases (show Rep X.K G2 (.int i) y from r2)
      obtain ⟨v, h2, h3⟩ := RepA.atI (RepA.ints (K := X.K) (G := G2) ns) h
      exact ⟨p, _, _, v, rfl, rfl, hq, h2, q G2 H2 v (gx1.trans gx2) h3⟩
    · cases hl
    · cases hl⟩
/-- parts of slices -/
abbrev SO := Rho → Option (Option Int)
def tO (K : PySem.W.Frag) (f : SO) : TO := fun σ H Q => ∃ G0 H0 G ρ o, Sok K G0 H0 G ρ σ H ∧ f ρ = some o ∧ ∀ G' H', Gx G H G' H' → Q o H'
structure DO (X : Cx) (e : Option Expr) (f : SO) : Prop where
  po : PO X e (tO X.K f)
theorem _root_.L2.PO.imp {e : Option Expr} {t t' : TO} (h : PO X e t) (w : ∀ σ H Q, t' σ H Q → t σ H Q) : PO X e t' := ⟨fun pins s σ H Q I q => h.run pins s σ H Q I (w σ H Q q)⟩
def oNo : SO := fun _ => some none
def asI : PyData → Option (Option Int)
  | .int i => some (some i)
  | _ => none
def oSo (f : SE) : SO := fun ρ => (f ρ).bind asI
theorem o_no : DO X none oNo := ⟨po_none.imp fun σ H Q ⟨G0, H0, G, ρ, o, s, ed, q⟩ => by
  cases ed
  exact q G H (Gx.refl s.gx.gh)⟩
theorem o_so (h : DX X .val e f) : DO X (some e) (oSo f) := ⟨(po_some h.pe).imp fun σ H Q ⟨G0, H0, G, ρ, o, s, ed, q⟩ => by
  obtain ⟨d1, e1, ed⟩ := bind_some ed
  unfold asI at ed
  split at ed
  · cases ed
    refine ⟨G0, H0, G, ρ, _, s, e1, fun G1 H1 v gx r => ?_⟩
    cases (show Rep X.K G1 (.int _) v from r)
    exact ⟨_, rfl, q G1 H1 gx⟩
  · cases ed⟩
def cutD (xs : List PyData) (lo hi : Option Int) : List PyData := (xs.drop (HT.sIx xs.length 0 lo)).take (HT.sIx xs.length xs.length hi - HT.sIx xs.length 0 lo)
theorem RepA.cut {G : Hp} {ds : List PyData} {vs : List V} (r : RepA K G ds vs) (lo hi : Option Int) : RepA K G (cutD ds lo hi) (cutV vs lo hi) := by
  unfold cutD cutV
  rw [r.len]
  exact (r.drop _).take _
def oSl (d : PyData) (lo hi : Option Int) : Option PyData := match d with
  | .list ds => some (.list (cutD ds lo hi))
  | .str z => if z.length ≤ sizeLine then some (.str (cutS z lo hi)) else none
  | _ => none
def oSlL (d : PyData) (lo hi : Option Int) : Option PyData := match d with
  | .list ds => some (.list (cutD ds lo hi))
  | _ => none
def eSl (F : PyData → Option Int → Option Int → Option PyData) (f : SE) (g h : SO) : SE := fun ρ => (f ρ).bind fun d => (g ρ).bind fun lo => (h ρ).bind fun hi => F d lo hi
variable {gl gh : SO}
theorem sl_three {K : PySem.W.Frag} {r : V → Option Int → Option Int → Hp → VK → Prop} {mo : Md} {F : PyData → Option Int → Option Int → Option PyData}
    (hF : ∀ (G0 H0 G1 H1 G H : Hp) (d1 d : PyData) (lo hi : Option Int) (x : V) (Q : VK), Ex G H → Gx G1 H1 G H → RM K H0 H0 mo G H d1 x → F d1 lo hi = some d → (∀ G' H' v, Gx G H G' H' → RM K H0 H m G' H' d v → Q v H') → r x lo hi H Q) (hmo : ∀ {H0 Hs G H d v}, RM K H0 Hs mo G H d v → RM K H0 H0 mo G H d v) :
    ∀ σ H Q, tE K m (eSl F f gl gh) σ H Q → tSl r (tE K mo f) (tO K gl) (tO K gh) σ H Q := fun σ H Q ⟨G0, H0, G, ρ, d, s, ed, q⟩ => by
  obtain ⟨d1, e1, ed⟩ := bind_some ed
  obtain ⟨lo, e2, ed⟩ := bind_some ed
  obtain ⟨hi, e3, ed⟩ := bind_some ed
  refine ⟨G0, H0, G, ρ, d1, s, e1, fun G1 H1 x gx1 r1 => ⟨G0, H0, G1, ρ, lo, s.gx' gx1, e2, fun G2 H2 gx2 => ⟨G0, H0, G2, ρ, hi, (s.gx' gx1).gx' gx2, e3, fun G3 H3 gx3 => ?_⟩⟩⟩
  have gx := (gx1.trans gx2).trans gx3
  exact hF G0.g H0 G H G3 H3 d1 d lo hi x Q gx3.gh gx (hmo (r1.mono (gx2.trans gx3))) ed fun G' H' v gx4 r4 => q G' H' v (gx.trans gx4) (r4.start gx.h)
theorem d_slice (ha : DX X .bor e f) (hl : DO X lo gl) (hu : DO X hi gh) : DX X .val (.Subscript e (.Slice lo hi none p2) pos) (eSl oSl f gl gh) :=
  ⟨(pe_slice (SlR.or sl_list sl_str) ha.pe hl.po hu.po).imp (sl_three (mo := .bor) (fun G0 H0 G1 H1 G H d1 d lo hi x Q e gx r1 h q => by
    unfold oSl at h
    split at h
    · cases h
      obtain ⟨a, vs, rfl, h1, ra⟩ := RepB.rd e r1
      exact .inl ⟨a, vs, rfl, .inl h1, fun p np => newList (.inl rfl) e np (ra.cut lo hi) fun G' H' v gx' r' => q G' H' v gx' (r' H0)⟩
    · obtain ⟨hz, rfl⟩ := if_some h
      cases RepB.str r1
      exact .inr ⟨_, rfl, hz, q G H _ (Gx.refl e) (.str _)⟩
    · cases h) fun h => h)⟩
theorem d_sliceN (ha : DX X .bor e f) (hl : DO X lo gl) (hu : DO X hi gh) : DX X .new (.Subscript e (.Slice lo hi none p2) pos) (eSl oSlL f gl gh) :=
  ⟨(pe_slice sl_list ha.pe hl.po hu.po).imp (sl_three (mo := .bor) (fun G0 H0 G1 H1 G H d1 d lo hi x Q e gx r1 h q => by
    unfold oSlL at h
    split at h
    · cases h
      obtain ⟨a, vs, rfl, h1, ra⟩ := RepB.rd e r1
      exact ⟨a, vs, rfl, .inl h1, fun p np => newList (.inr rfl) e np (ra.cut lo hi) fun G' H' v gx' r' => q G' H' v gx' (r' H0)⟩
    · cases h) fun h => h)⟩
/-- a part of the script -/
theorem d_sliceS (ha : DX X .scr e f) (hl : DO X lo gl) (hu : DO X hi gh) : DX X .new (.Subscript e (.Slice lo hi none p2) pos) (eSl oSlL f gl gh) :=
  ⟨(pe_slice sl_list ha.pe hl.po hu.po).imp (sl_three (mo := .scr) (fun G0 H0 G1 H1 G H d1 d lo hi x Q e gx r1 h q => by
    obtain ⟨a, ns, rfl, rfl, hq⟩ := r1
    cases h
    exact ⟨a, _, rfl, hq, fun p np => newList (.inr rfl) e np ((RepA.ints ns).cut lo hi) fun G' H' v gx' r' => q G' H' v gx' (r' H0)⟩) fun h => h)⟩
def oRev : PyData → Option PyData
  | .list ds => some (.list ds.reverse)
  | _ => none
theorem d_rev {k : Nat} {p1 p3 p4 : Pos} (ha : DX X .bor e f) : DX X .new (.Subscript e (.Slice none none (some (.UnaryOp .USub (.Constant (.int 1) k p1) p3)) p4) pos) (eUn oRev f) :=
  ⟨(pe_revL ha.pe).imp fun σ H Q ⟨G0, H0, G, ρ, d, s, ed, q⟩ => by
    obtain ⟨d1, e1, ed⟩ := bind_some ed
    unfold oRev at ed
    split at ed
    · cases ed
      refine ⟨G0, H0, G, ρ, _, s, e1, fun G1 H1 x gx1 r1 => ?_⟩
      obtain ⟨a, vs, rfl, h1, ra⟩ := RepB.rd gx1.gh r1
      exact ⟨a, vs, rfl, .inl h1, fun p np => newList (.inr rfl) gx1.gh np ra.reverse fun G' H' v gx' r' => q G' H' v (gx1.trans gx') ((r' H0).start gx1.h)⟩
    · cases ed⟩
end

/-! ### calls of built-ins -/
inductive RepBA (K : PySem.W.Frag) (G H : Hp) : List PyData → List V → Prop
  | nil : RepBA K G H [] []
  | cons {d : PyData} {ds : List PyData} {v : V} {vs : List V} : RepB K G H d v → RepBA K G H ds vs → RepBA K G H (d :: ds) (v :: vs)
theorem RMs.bors {K : PySem.W.Frag} {H0 Hs G H : Hp} : ∀ {ms : List Md} {ds : List PyData} {vs : List V}, (∀ m ∈ ms, m = .bor) → RMs K H0 Hs G H ms ds vs → RepBA K G H ds vs
  | _, _, _, _, .nil => .nil
  | m :: _, _, _, q, .cons h t => by
    have e : m = .bor := q m List.mem_cons_self
    subst e
    exact .cons h (RMs.bors (fun m hm => q m (List.mem_cons_of_mem _ hm)) t)
theorem RepBA.one {K : PySem.W.Frag} {G H : Hp} {d : PyData} {vs : List V} (h : RepBA K G H [d] vs) : ∃ v, vs = [v] ∧ RepB K G H d v := by
  cases h with
  | cons h t => cases t; exact ⟨_, rfl, h⟩
theorem RepBA.two {K : PySem.W.Frag} {G H : Hp} {d d' : PyData} {vs : List V} (h : RepBA K G H [d, d'] vs) : ∃ v v', vs = [v, v'] ∧ RepB K G H d v ∧ RepB K G H d' v' := by
  cases h with
  | cons h t =>
    obtain ⟨w, rfl, h2⟩ := t.one
    exact ⟨_, _, rfl, h, h2⟩
def CallF (K : PySem.W.Frag) (m : Md) (r : List V → Hp → VK → Prop) (F : List PyData → Option PyData) : Prop :=
  ∀ (G H : Hp) (ds : List PyData) (d : PyData) (vs : List V) (Q : VK), Ex G H → RepBA K G H ds vs → F ds = some d → (∀ G' H' v, Gx G H G' H' → (∀ H0, RM K H0 H m G' H' d v) → Q v H') → r vs H Q
section
variable {K : PySem.W.Frag} {X : Cx} {e : Expr} {es : List Expr} {m : Md} {ms : List Md} {pos p : Pos} {r : List V → Hp → VK → Prop} {ra : SA} {F : List PyData → Option PyData} {x : Str} {id T : String}
theorem callB_of {K : PySem.W.Frag} (hF : CallF K m r F) (hms : ∀ m ∈ ms, m = .bor) : ∀ σ H Q, tE K m (eCall F ra) σ H Q → tCB r (tA K ms ra) σ H Q := fun σ H Q ⟨G0, H0, G, ρ, d, s, ed, q⟩ => by
  obtain ⟨ds, e1, e2⟩ := bind_some ed
  refine ⟨G0, H0, G, ρ, ds, s, e1, fun G' H' vs gx rr => ?_⟩
  exact hF G' H' ds d vs Q gx.gh (rr.bors hms) e2 fun G2 H2 v gx2 r2 => q G2 H2 v (gx.trans gx2) ((r2 H0).start gx.h)
theorem d_callB (hc : CallR X (.builtin id) r) (hF : CallF X.K m r F) (hms : ∀ m ∈ ms, m = .bor) (hg : Gl X x) (hm : X.mg x = none) (hv : bootBuiltins x = some (.builtin id)) (ha : DA X ms (e :: es) ra) (hn : x ≠ "__name__" := by decide) (hdb : (x == ("__debug__" : Str)) = false := by decide)
    (he : starEach (e :: es) X.env = (false, eval e X.env) :: starEach es X.env := by rfl) (hpl : (backTo pos (starEach es X.env)).any (·.1) = false := by rfl) : DX X m (.Call (.Name x p) (e :: es) [] pos) (eCall F ra) :=
  ⟨(pe_callB hc hg hm hv ha.pa hn hdb he hpl).imp (callB_of hF hms)⟩
theorem d_callTy (hc : CallR X (.type T) r) (hF : CallF X.K m r F) (hms : ∀ m ∈ ms, m = .bor) (hg : Gl X x) (hm : X.mg x = none) (hv : bootBuiltins x = some (.type T)) (ha : DA X ms (e :: es) ra) (hn : x ≠ "__name__" := by decide) (hdb : (x == ("__debug__" : Str)) = false := by decide)
    (he : starEach (e :: es) X.env = (false, eval e X.env) :: starEach es X.env := by rfl) (hpl : (backTo pos (starEach es X.env)).any (·.1) = false := by rfl) : DX X m (.Call (.Name x p) (e :: es) [] pos) (eCall F ra) :=
  ⟨(pe_callTy hc hg hm hv ha.pa hn hdb he hpl).imp (callB_of hF hms)⟩
end
end DV

namespace DV
open PySem L2

/-! ### the built-ins -/
section
variable {K : PySem.W.Frag} {X : Cx}
theorem RepBA.none1 {G H : Hp} {ds : List PyData} {vs : List V} (h : RepBA K G H ds vs) : ds.length = vs.length := by
  induction h with
  | nil => rfl
  | cons _ _ ih => exact congrArg (· + 1) ih
def cLen : List PyData → Option PyData
  | [.list l] => some (.int (l.length : Nat))
  | [.tuple l] => some (.int (l.length : Nat))
  | [.str z] => if z.length ≤ sizeLine then some (.int (z.length : Nat)) else none
  | _ => none
theorem cf_len : CallF K .val (fun xs H Q => ∃ x n, xs = [x] ∧ LenV K x H n ∧ Q (.int n) H) cLen := fun G H ds d vs Q e r h q => by
  unfold cLen at h
  split at h
  · cases h
    obtain ⟨v, rfl, r1⟩ := r.one
    obtain ⟨a, us, rfl, h1, ra⟩ := r1.rd e
    exact ⟨_, _, rfl, .inl ⟨us, .inl h1, ra.len⟩, q G H _ (Gx.refl e) fun _ => .int _⟩
  · cases h
    obtain ⟨v, rfl, r1⟩ := r.one
    obtain ⟨a, us, rfl, h1, ra⟩ := r1.seqT
    exact ⟨_, _, rfl, .inr ⟨us, h1 H e, ra.len⟩, q G H _ (Gx.refl e) fun _ => .int _⟩
  · obtain ⟨hz, rfl⟩ := if_some h
    obtain ⟨v, rfl, r1⟩ := r.one
    cases r1.str
    exact ⟨_, _, rfl, ⟨hz, rfl⟩, q G H _ (Gx.refl e) fun _ => .int _⟩
  · cases h
/-- int(n) -/
def cInt : List PyData → Option PyData
  | [.int i] => some (.int i)
  | [.bool k] => some (.int (if k then 1 else 0))
  | _ => none
theorem cf_int : CallF K .val (fun xs H Q => (∃ i, xs = [.int i] ∧ Q (.int i) H) ∨ ∃ k, xs = [.bl k] ∧ Q (.int (if k then 1 else 0)) H) cInt := fun G H ds d vs Q e r h q => by
  unfold cInt at h
  split at h
  · cases h
    obtain ⟨v, rfl, r1⟩ := r.one
    cases r1.int
    exact .inl ⟨_, rfl, q G H _ (Gx.refl e) fun _ => .int _⟩
  · cases h
    obtain ⟨v, rfl, r1⟩ := r.one
    cases r1.bl
    exact .inr ⟨_, rfl, q G H _ (Gx.refl e) fun _ => .int _⟩
  · cases h
def cAbs : List PyData → Option PyData
  | [.int i] => some (.int (if i < 0 then -i else i))
  | _ => none
theorem cf_abs : CallF K .val (fun xs H Q => ∃ i, xs = [.int i] ∧ Q (.int (if i < 0 then -i else i)) H) cAbs := fun G H ds d vs Q e r h q => by
  unfold cAbs at h
  split at h
  · cases h
    obtain ⟨v, rfl, r1⟩ := r.one
    cases r1.int
    exact ⟨_, rfl, q G H _ (Gx.refl e) fun _ => .int _⟩
  · cases h
def cMax2 : List PyData → Option PyData
  | [.int i, .int j] => some (.int (if j > i then j else i))
  | _ => none
def cMin2 : List PyData → Option PyData
  | [.int i, .int j] => some (.int (if j < i then j else i))
  | _ => none
theorem cf_max2 : CallF K .val (fun xs H Q => ∃ i j, xs = [.int i, .int j] ∧ Q (.int (if j > i then j else i)) H) cMax2 := fun G H ds d vs Q e r h q => by
  unfold cMax2 at h
  split at h
  · cases h
    obtain ⟨v, w, rfl, r1, r2⟩ := r.two
    cases r1.int
    cases r2.int
    exact ⟨_, _, rfl, q G H _ (Gx.refl e) fun _ => .int _⟩
  · cases h
theorem cf_min2 : CallF K .val (fun xs H Q => ∃ i j, xs = [.int i, .int j] ∧ Q (.int (if j < i then j else i)) H) cMin2 := fun G H ds d vs Q e r h q => by
  unfold cMin2 at h
  split at h
  · cases h
    obtain ⟨v, w, rfl, r1, r2⟩ := r.two
    cases r1.int
    cases r2.int
    exact ⟨_, _, rfl, q G H _ (Gx.refl e) fun _ => .int _⟩
  · cases h
/-- all ints -/
def intsOf : List PyData → Option (List Int)
  | [] => some []
  | .int i :: r => (intsOf r).map (i :: ·)
  | _ => none
theorem intsOf_some : ∀ {ds : List PyData} {ns : List Int}, intsOf ds = some ns → ds = ns.map .int
  | [], ns, h => by cases h; rfl
  | .int i :: r, ns, h => by
    unfold intsOf at h
    cases e : intsOf r with
    | none => rw [e] at h; cases h
    | some ms => rw [e] at h; cases h; rw [intsOf_some e]; rfl
theorem intsOf_map (ns : List Int) : intsOf (ns.map .int) = some ns := by
  induction ns with
  | nil => rfl
  | cons n r ih => show (intsOf (r.map .int)).map (n :: ·) = _; rw [ih]; rfl
def cSum : List PyData → Option PyData
  | [.list l] => (intsOf l).map fun ns => .int ns.sum
  | _ => none
theorem map_some {α β : Type} {o : Option α} {k : α → β} {b : β} (h : o.map k = some b) : ∃ a, o = some a ∧ k a = b := by
  cases o with
  | none => cases h
  | some a => exact ⟨a, rfl, Option.some.inj h⟩
theorem RepB.ints {G H : Hp} (e : Ex G H) {ns : List Int} {v : V} (r : RepB K G H (.list (ns.map .int)) v) : ∃ a, v = .ref a ∧ Rd H a (.lst (ns.map V.int)) := by
  obtain ⟨a, us, rfl, h1, ra⟩ := r.rd e
  cases ra.ofInts
  exact ⟨a, rfl, h1⟩
theorem cf_sum : CallF K .val (rSum K) cSum := fun G H ds d vs Q e r h q => by
  unfold cSum at h
  split at h
  · obtain ⟨ns, h1, rfl⟩ := map_some h
    obtain ⟨v, rfl, r1⟩ := r.one
    cases intsOf_some h1
    obtain ⟨a, rfl, h2⟩ := r1.ints e
    exact ⟨a, ns, rfl, .inl h2, q G H _ (Gx.refl e) fun _ => .int _⟩
  · cases h
def maxL : Int → List Int → Int
  | m, [] => m
  | m, x :: r => maxL (max m x) r
def minL : Int → List Int → Int
  | m, [] => m
  | m, x :: r => minL (min m x) r
theorem maxL_ge : ∀ (r : List Int) (m : Int), m ≤ maxL m r ∧ ∀ y ∈ r, y ≤ maxL m r
  | [], m => ⟨Int.le_refl _, fun y h => by cases h⟩
  | x :: r, m => by
    obtain ⟨h1, h2⟩ := maxL_ge r (max m x)
    refine ⟨by show m ≤ maxL (max m x) r; omega, fun y hy => ?_⟩
    show y ≤ maxL (max m x) r
    rcases List.mem_cons.mp hy with rfl | hy
    · omega
    · exact h2 y hy
theorem maxL_mem : ∀ (r : List Int) (m : Int), maxL m r = m ∨ maxL m r ∈ r
  | [], m => .inl rfl
  | x :: r, m => by
    show maxL (max m x) r = m ∨ maxL (max m x) r ∈ x :: r
    rcases maxL_mem r (max m x) with h | h
    · by_cases c : m ≤ x
      · right; rw [h, show max m x = x by omega]; exact List.mem_cons_self
      · left; rw [h]; omega
    · exact .inr (List.mem_cons_of_mem _ h)
theorem minL_le : ∀ (r : List Int) (m : Int), minL m r ≤ m ∧ ∀ y ∈ r, minL m r ≤ y
  | [], m => ⟨Int.le_refl _, fun y h => by cases h⟩
  | x :: r, m => by
    obtain ⟨h1, h2⟩ := minL_le r (min m x)
    refine ⟨by show minL (min m x) r ≤ m; omega, fun y hy => ?_⟩
    show minL (min m x) r ≤ y
    rcases List.mem_cons.mp hy with rfl | hy
    · omega
    · exact h2 y hy
theorem minL_mem : ∀ (r : List Int) (m : Int), minL m r = m ∨ minL m r ∈ r
  | [], m => .inl rfl
  | x :: r, m => by
    show minL (min m x) r = m ∨ minL (min m x) r ∈ x :: r
    rcases minL_mem r (min m x) with h | h
    · by_cases c : x ≤ m
      · right; rw [h, show min m x = x by omega]; exact List.mem_cons_self
      · left; rw [h]; omega
    · exact .inr (List.mem_cons_of_mem _ h)
def cMaxL : List PyData → Option PyData
  | [.list l] => (intsOf l).bind fun ns => match ns with
    | n :: r => some (.int (maxL n r))
    | [] => none
  | _ => none
def cMinL : List PyData → Option PyData
  | [.list l] => (intsOf l).bind fun ns => match ns with
    | n :: r => some (.int (minL n r))
    | [] => none
  | _ => none
theorem maxL_eq {n m : Int} {r : List Int} (hm : m ∈ n :: r) (hall : ∀ y, y ∈ n :: r → y ≤ m) : m = maxL n r := by
  have z1 : m ≤ maxL n r := by
    rcases List.mem_cons.mp hm with rfl | hm
    · exact (maxL_ge r _).1
    · exact (maxL_ge r n).2 m hm
  have z2 : maxL n r ≤ m := by
    rcases maxL_mem r n with z | z
    · rw [z]; exact hall n List.mem_cons_self
    · exact hall _ (List.mem_cons_of_mem _ z)
  omega
theorem cf_maxL : CallF K .val (rMax K) cMaxL := fun G H ds d vs Q e r h q => by
  unfold cMaxL at h
  split at h
  · obtain ⟨ns, h1, h2⟩ := bind_some h
    cases ns with
    | nil => cases h2
    | cons n t =>
      cases h2
      obtain ⟨v, rfl, r1⟩ := r.one
      cases intsOf_some h1
      obtain ⟨a, rfl, h2⟩ := r1.ints e
      refine ⟨a, _, rfl, .inl h2, Nat.succ_pos _, fun m hm hall => ?_⟩
      rw [maxL_eq hm hall]
      exact q G H _ (Gx.refl e) fun _ => .int _
  · cases h
theorem minL_eq {n m : Int} {r : List Int} (hm : m ∈ n :: r) (hall : ∀ y, y ∈ n :: r → m ≤ y) : m = minL n r := by
  have z1 : minL n r ≤ m := by
    rcases List.mem_cons.mp hm with rfl | hm
    · exact (minL_le r _).1
    · exact (minL_le r n).2 m hm
  have z2 : m ≤ minL n r := by
    rcases minL_mem r n with z | z
    · rw [z]; exact hall n List.mem_cons_self
    · exact hall _ (List.mem_cons_of_mem _ z)
  omega
theorem cf_minL : CallF K .val (rMin K) cMinL := fun G H ds d vs Q e r h q => by
  unfold cMinL at h
  split at h
  · obtain ⟨ns, h1, h2⟩ := bind_some h
    cases ns with
    | nil => cases h2
    | cons n t =>
      cases h2
      obtain ⟨v, rfl, r1⟩ := r.one
      cases intsOf_some h1
      obtain ⟨a, rfl, h2⟩ := r1.ints e
      refine ⟨a, _, rfl, .inl h2, Nat.succ_pos _, fun m hm hall => ?_⟩
      rw [minL_eq hm hall]
      exact q G H _ (Gx.refl e) fun _ => .int _
  · cases h
def boolsOf : List PyData → Option (List Bool)
  | [] => some []
  | .bool i :: r => (boolsOf r).map (i :: ·)
  | _ => none
theorem boolsOf_some : ∀ {ds : List PyData} {ns : List Bool}, boolsOf ds = some ns → ds = ns.map .bool
  | [], ns, h => by cases h; rfl
  | .bool i :: r, ns, h => by
    unfold boolsOf at h
    cases e : boolsOf r with
    | none => rw [e] at h; cases h
    | some ms => rw [e] at h; cases h; rw [boolsOf_some e]; rfl
theorem boolsOf_map (ns : List Bool) : boolsOf (ns.map .bool) = some ns := by
  induction ns with
  | nil => rfl
  | cons n r ih => show (boolsOf (r.map .bool)).map (n :: ·) = _; rw [ih]; rfl
theorem RepA.ofBools {G : Hp} : ∀ {ns : List Bool} {vs : List V}, RepA K G (ns.map .bool) vs → vs = ns.map V.bl
  | [], _, .nil => rfl
  | n :: r, _, .cons h t => by
    cases h
    rw [RepA.ofBools t]; rfl
def cAny : List PyData → Option PyData
  | [.list l] => (boolsOf l).map fun ns => .bool (ns.any id)
  | _ => none
theorem cf_any : CallF K .val (rAny K) cAny := fun G H ds d vs Q e r h q => by
  unfold cAny at h
  split at h
  · obtain ⟨ns, h1, rfl⟩ := map_some h
    obtain ⟨v, rfl, r1⟩ := r.one
    cases boolsOf_some h1
    obtain ⟨a, us, rfl, h2, ra⟩ := r1.rd e
    cases ra.ofBools
    exact ⟨a, ns, rfl, .inl h2, q G H _ (Gx.refl e) fun _ => .bl _⟩
  · cases h
/-- list(a list, a tuple) -/
def cList : List PyData → Option PyData
  | [.list l] => some (.list l)
  | [.tuple l] => some (.list l)
  | _ => none
theorem cf_list : CallF K .new (fun xs H Q => ∃ p ys, xs = [.ref p] ∧ (SqL K H p ys ∨ SqT K H p ys) ∧ ∀ l, H l = none → Q (.ref l) (upd H l (.lst ys))) cList := fun G H ds d vs Q e r h q => by
  unfold cList at h
  split at h
  · cases h
    obtain ⟨v, rfl, r1⟩ := r.one
    obtain ⟨a, us, rfl, h2, ra⟩ := r1.rd e
    exact ⟨a, us, rfl, .inl (.inl h2), fun p np => newList (.inr rfl) e np ra q⟩
  · cases h
    obtain ⟨v, rfl, r1⟩ := r.one
    obtain ⟨a, us, rfl, h2, ra⟩ := r1.seqT
    exact ⟨a, us, rfl, .inr (h2 H e), fun p np => newList (.inr rfl) e np ra q⟩
  · cases h
end

/-! ### isinstance of a built-in class -/
def tyName : PyData → String
  | .none => "NoneType"
  | .bool _ => "bool"
  | .int _ => "int"
  | .str _ => "str"
  | .list _ => "list"
  | .tuple _ => "tuple"
  | .dict _ => "dict"
def isT (T : String) : PyData → Option Bool
  | .bool _ => some (T == "bool" || T == "int")
  | .dict _ => none
  | d => some (tyName d == T)
def eIs (T : String) (f : SE) : SE := fun ρ => (f ρ).bind fun d => (isT T d).map .bool
theorem rep_ty {K : PySem.W.Frag} {G H : Hp} (e : Ex G H) {d : PyData} {v : V} (nd : ∀ es, d ≠ .dict es) (r : RepB K G H d v) : TyX K H v (.type (tyName d)) := by
  cases r with
  | lst h _ => exact .base (.lst h)
  | dK h _ _ => exact .base (.dK h)
  | dT h _ _ => exact .base (.dT h)
  | val r =>
    cases r with
    | non => exact .base .non
    | bl b => exact .base (.bl b)
    | int i => exact .base (.int i)
    | str x => exact .base (.str x)
    | lst h _ =>
      rcases e.rd h with h | ⟨o, h⟩
      · exact .base (.lst h)
      · exact .base (.frz h)
    | tup h _ =>
      rcases e.sqt (K := K) (sqtOf h) with (h | ⟨o, h⟩) | ⟨o, its, n, k, c, _⟩
      · exact .base (.tup h)
      · exact .fTuple h
      · exact .kTuple k c
    | dK h _ _ => exact absurd rfl (nd _)
    | dT h _ _ => exact absurd rfl (nd _)
/-- the built-in class T, for which the model's own answers are what isT says -/
def TyOkT (T : String) : Prop := ∀ n ∈ ["NoneType", "int", "str", "list", "tuple"], kitB n T = some (n == T)
theorem d_isi {X : Cx} {T : String} {a : Expr} {f : SE} {y : Str} {p p1 pos : Pos} (hg : Gl X "isinstance") (hm : X.mg "isinstance" = none) (ha : DX X .bor a f)
    (hgT : Gl X y) (hmT : X.mg y = none) (hvT : bootBuiltins y = some (.type T)) (ok : TyOkT T) (okB : kitB "bool" T = some (T == "bool" || T == "int"))
    (hnT : y ≠ "__name__" := by decide) (hdT : (y == ("__debug__" : Str)) = false := by decide)
    (he : starEach [a, .Name y p1] X.env = (false, eval a X.env) :: starEach [.Name y p1] X.env := by rfl) (hpl : (backTo pos (starEach [.Name y p1] X.env)).any (·.1) = false := by rfl) (h2 : starEach [.Name y p1] X.env = (false, eval (.Name y p1) X.env) :: starEach [] X.env := by rfl) :
    DX X .val (.Call (.Name "isinstance" p) [a, .Name y p1] [] pos) (eIs T f) :=
  ⟨(pe_callB call_isi hg hm PyProof.Rows.boot_isinstance (pa_cons ha.pe (pa_cons (pe_bltn (v := .ty T) hgT hmT hvT rfl hnT hdT) pa_nil h2) he) (by decide) (by decide) he hpl).imp fun σ H Q ⟨G0, H0, G, ρ, d, s, ed, q⟩ => by
    obtain ⟨d1, e1, ed⟩ := bind_some ed
    obtain ⟨k, e2, rfl⟩ := map_some ed
    refine ⟨G0, H0, G, ρ, d1, s, e1, fun G1 H1 v gx r => ?_⟩
    have nd : ∀ es, d1 ≠ .dict es := fun es z => by subst z; cases e2
    have kk : kitB (tyName d1) T = some k := by
      cases d1 with
      | bool b => rw [show tyName (.bool b) = "bool" from rfl, okB]; exact e2
      | dict es => exact absurd rfl (nd es)
      | none => rw [ok _ (by decide)]; exact e2
      | int i => rw [show tyName (.int i) = "int" from rfl, ok _ (by decide)]; exact e2
      | str i => rw [show tyName (.str i) = "str" from rfl, ok _ (by decide)]; exact e2
      | list i => rw [show tyName (.list i) = "list" from rfl, ok _ (by decide)]; exact e2
      | tuple i => rw [show tyName (.tuple i) = "tuple" from rfl, ok _ (by decide)]; exact e2
    exact ⟨v, .ty T, .type (tyName d1), .type T, k, rfl, .ty T, rep_ty gx.gh nd r, kit_ty kk, q G1 H1 _ gx (.bl _)⟩⟩
theorem okT_int : TyOkT "int" := by unfold TyOkT; decide +kernel
theorem okT_bool : TyOkT "bool" := by unfold TyOkT; decide +kernel
theorem okT_tuple : TyOkT "tuple" := by unfold TyOkT; decide +kernel
theorem okT_list : TyOkT "list" := by unfold TyOkT; decide +kernel
theorem okT_str : TyOkT "str" := by unfold TyOkT; decide +kernel

/-! ### own lists change -/
section
variable {X : Cx} {rm : Md} {a b e : Expr} {f g : SE} {r : SA} {pos p2 p1 cpos apos : Pos} {x : Str}
/-- what an own slot holds becomes F of it and a value -/
def sMut (F : List PyData → List PyData → Option PyData) (i : Nat) (r : SA) : SS := fun ρ => match ρ[i]? with
  | some (.own (.list l)) => (r ρ).bind fun ds => (F l ds).bind fun d => some (.nx (ρ.set i (.own d)))
  | _ => none
theorem own_list {K : PySem.W.Frag} {G H : Hp} {a : Addr} {l : List PyData} (h : Own K G H a (.list l)) : ∃ vs, H a = some (.lst vs) ∧ RepA K G l vs := by
  cases h with
  | lst h r => exact ⟨_, h, r⟩
/-- a method of an own list that is dropped as a statement -/
theorem mut_of {K : PySem.W.Frag} {i : Nat} {ms : List Md} {rr : V → List V → Hp → VK → Prop} {F : List PyData → List PyData → Option PyData}
    (hF : ∀ (G H : Hp) (l ds : List PyData) (d : PyData) (vs us : List V) (p : Addr) (Q : VK), Ex G H → H p = some (.lst vs) → RepA K G l vs → RepA K G ds us → F l ds = some d → (∀ o v, Own K G (upd H p o) p d → Q v (upd H p o)) → rr (.ref p) us H Q)
    (hms : ∀ m ∈ ms, m = .val) : ∀ D σ H, tS K rm (sMut F i r) D σ H → tDrop (tBM K "list" rr (tVar i) (tA K ms r)) D σ H := fun D σ H ⟨G0, H0, G, ρ, o, s, e, q⟩ => by
  unfold sMut at e
  split at e
  · rename_i l h
    obtain ⟨ds, e1, e⟩ := bind_some e
    obtain ⟨d, e2, e⟩ := bind_some e
    cases e
    obtain ⟨p, h1, h2, h3, h4⟩ := s.own h
    obtain ⟨vs, hv, _⟩ := own_list h4
    refine ⟨_, h1, .inl ⟨rfl, _, SqL.of hv⟩, G0, H0, G, ρ, ds, s, e1, fun G1 H1 us gx ra => ?_⟩
    have s1 := s.gx' gx
    obtain ⟨p', k1, k2, k3, k4⟩ := s1.own h
    rw [h1] at k1; cases k1
    obtain ⟨vs', hv', rl⟩ := own_list k4
    exact hF G1 H1 l ds d vs' us p _ gx.gh hv' rl (ra.vals hms) e2 fun o v ow => q G1 σ _ gx.g (s1.write h h1 k2 k3 ow)
  · cases e
def fApp : List PyData → List PyData → Option PyData := fun l ds => match ds with
  | [d] => if l.length < sizeLine then some (.list (l ++ [d])) else none
  | _ => none
theorem s_app (i : Nat) (ha : DX X .val a f) (hN : X.N[i]? = some x := by rfl) (hv : Vis X.env.scope x := by first | exact Or.inl rfl | exact Or.inr (Or.inl rfl) | exact Or.inr (Or.inr rfl)) (hd : (x == ("__debug__" : Str)) = false := by decide)
    (hcd : (x == ("__classdict__" : Str)) = false := by decide)
    (hbase : attributeBase (.Name x p1) "append" X.env (eval (.Name x p1) X.env) = eval (.Name x p1) X.env := by rfl)
    (hfew : ((backTo cpos (starEach (a :: []) X.env)).all (fun x => !x.1) && (backToKw cpos (keywordEach [] X.env)).all (fun x => x.1.isSome)
      && decide ((a :: []).length + ([] : List Keyword).length + (if ([] : List Keyword).isEmpty then 0 else 1) < 30)) = true := by rfl)
    (hline : (apos.endLine == cpos.line) = true := by rfl) (hs : starEach (a :: []) X.env = (false, eval a X.env) :: starEach [] X.env := by rfl) (hplain : (backTo cpos (starEach [] X.env)).any (·.1) = false := by rfl)
    (hsw : swapsWith (.Call (.Attribute (.Name x p1) "append" apos) [a] [] cpos) none pos.line X.env = pure false := by rfl) :
    DS X rm (.Expr (.Call (.Attribute (.Name x p1) "append" apos) [a] [] cpos) pos) (sMut fApp i (aCons f aNil)) :=
  ⟨(ps_expr (pe_bm PySem.F.plainAttrs_list PySem.F.slot_list_append PySem.F.type_list_append mt_append (pv i hN hv hd hcd) (a_cons ha a_nil hs).pa hbase hfew hline hs hplain) hsw).imp
    (mut_of (fun G H l ds d vs us p Q e hv rl ra h q => by
      unfold fApp at h
      split at h
      · obtain ⟨hl, rfl⟩ := if_some h
        cases ra with
        | cons r1 t =>
          cases t
          exact ⟨p, vs, _, rfl, rfl, hv, by rw [← rl.len]; exact hl, q _ _ (.lst upd_same (rl.app (.cons r1 .nil)))⟩
      · cases h) (fun m hm => List.mem_singleton.mp hm))⟩
def fExt : List PyData → List PyData → Option PyData := fun l ds => match ds with
  | [.list k] => if l.length + k.length ≤ sizeLine then some (.list (l ++ k)) else none
  | _ => none
def rExtR : V → List V → Hp → VK → Prop := fun x vs H Q => ∃ l b xs zs, x = .ref l ∧ vs = [.ref b] ∧ H l = some (.lst xs) ∧ Rd H b (.lst zs) ∧ xs.length + zs.length ≤ sizeLine ∧ Q .non (upd H l (.lst (xs ++ zs)))
def fIns : List PyData → List PyData → Option PyData := fun l ds => match ds with
  | [.int i, d] => if l.length < sizeLine ∧ 0 ≤ i ∧ i < 2 ^ 63 then some (.list (l.take i.toNat ++ [d] ++ l.drop i.toNat)) else none
  | _ => none
theorem s_ins (i : Nat) (ha : DX X .val a f) (hb : DX X .val b g) (hN : X.N[i]? = some x := by rfl) (hv : Vis X.env.scope x := by first | exact Or.inl rfl | exact Or.inr (Or.inl rfl) | exact Or.inr (Or.inr rfl)) (hd : (x == ("__debug__" : Str)) = false := by decide)
    (hcd : (x == ("__classdict__" : Str)) = false := by decide)
    (hbase : attributeBase (.Name x p1) "insert" X.env (eval (.Name x p1) X.env) = eval (.Name x p1) X.env := by rfl)
    (hfew : ((backTo cpos (starEach [a, b] X.env)).all (fun x => !x.1) && (backToKw cpos (keywordEach [] X.env)).all (fun x => x.1.isSome)
      && decide ([a, b].length + ([] : List Keyword).length + (if ([] : List Keyword).isEmpty then 0 else 1) < 30)) = true := by rfl)
    (hline : (apos.endLine == cpos.line) = true := by rfl) (hs : starEach [a, b] X.env = (false, eval a X.env) :: starEach [b] X.env := by rfl) (hs2 : starEach [b] X.env = (false, eval b X.env) :: starEach [] X.env := by rfl) (hplain : (backTo cpos (starEach [b] X.env)).any (·.1) = false := by rfl)
    (hsw : swapsWith (.Call (.Attribute (.Name x p1) "insert" apos) [a, b] [] cpos) none pos.line X.env = pure false := by rfl) :
    DS X rm (.Expr (.Call (.Attribute (.Name x p1) "insert" apos) [a, b] [] cpos) pos) (sMut fIns i (aCons f (aCons g aNil))) :=
  ⟨(ps_expr (pe_bm PySem.F.plainAttrs_list PySem.F.slot_list_insert PySem.F.type_list_insert mt_insert (pv i hN hv hd hcd) (a_cons ha (a_cons hb a_nil hs2) hs).pa hbase hfew hline hs hplain) hsw).imp
    (mut_of (fun G H l ds d vs us p Q e hv rl ra h q => by
      unfold fIns at h
      split at h
      · obtain ⟨⟨hl, h0, h1⟩, rfl⟩ := if_some h
        cases ra with
        | cons r1 t =>
          cases t with
          | cons r2 t =>
            cases t
            cases r1
            exact ⟨p, vs, _, _, rfl, rfl, hv, by rw [← rl.len]; exact hl, h0, h1, q _ _ (.lst upd_same (((rl.take _).app (.cons r2 .nil)).app (rl.drop _)))⟩
      · cases h) (fun m hm => by simp at hm; exact hm))⟩
/-- x[i] = v of an own list -/
def fSet : List PyData → List PyData → Option PyData := fun l ds => match ds with
  | [.int k, d] => (ixN l.length k).map fun j => .list (l.set j d)
  | _ => none
/-- the value first, then the index -/
def sPut (i : Nat) (fv fi : SE) : SS := fun ρ => (fv ρ).bind fun d => match ρ[i]? with
  | some (.own (.list l)) => (fi ρ).bind fun k => (fSet l [k, d]).bind fun d' => some (.nx (ρ.set i (.own d')))
  | _ => none
theorem s_put (i : Nat) {tpos : Pos} (he : DX X .val e g) (hi : DX X .val b f) (hN : X.N[i]? = some x := by rfl) (hv : Vis X.env.scope x := by first | exact Or.inl rfl | exact Or.inr (Or.inl rfl) | exact Or.inr (Or.inr rfl)) (hd : (x == ("__debug__" : Str)) = false := by decide)
    (hcd : (x == ("__classdict__" : Str)) = false := by decide)
    (ha : ∀ v, assign (.Subscript (.Name x p1) b tpos) X.env v = (do
      let ov ← holding [v] (eval (.Name x p1) X.env)
      let iv ← holding [v, ov] (eval b X.env)
      standAt tpos
      holding [v, ov, iv] (setItem ov iv v)
      release [v, ov, iv] []) := by intro _; rfl)
    (hs : swapsWithSole [.Subscript (.Name x p1) b tpos] e pos.line X.env = pure false := by rfl) (hw : swappedStores [.Subscript (.Name x p1) b tpos] e X.env = pure none := by rfl)
    (h1 : (assignEach [.Subscript (.Name x p1) b tpos] X.env).map (·.2) = [assign (.Subscript (.Name x p1) b tpos) X.env] := by rfl) : DS X rm (.Assign [.Subscript (.Name x p1) b tpos] e pos) (sPut i g f) :=
  ⟨(ps_asg he.pe (pg_sub (pv i hN hv hd hcd) hi.pe set_list ha) hs hw h1).imp fun D σ H ⟨G0, H0, G, ρ, o, s, e, q⟩ => by
    obtain ⟨d, e1, e⟩ := bind_some e
    split at e
    · rename_i l h
      obtain ⟨k, e2, e⟩ := bind_some e
      obtain ⟨d', e3, e⟩ := bind_some e
      cases e
      refine ⟨G0, H0, G, ρ, d, s, e1, fun G1 H1 v gx r1 => ?_⟩
      have s1 := s.gx' gx
      obtain ⟨p, h1, h2, h3, h4⟩ := s1.own h
      refine ⟨_, h1, G0, H0, G1, ρ, k, s1, e2, fun G2 H2 y gx2 r2 => ?_⟩
      have s2 := s1.gx' gx2
      obtain ⟨p', k1, k2, k3, k4⟩ := s2.own h
      rw [h1] at k1; cases k1
      obtain ⟨vs, hv', rl⟩ := own_list k4
      unfold fSet at e3
      split at e3
      · rename_i kk dd hk
        cases hk
        obtain ⟨j, hj, rfl⟩ := map_some e3
        cases (show Rep X.K G2 (.int kk) y from r2)
        refine ⟨p, vs, kk, j, rfl, rfl, hv', by rw [← rl.len]; exact hj, ?_⟩
        exact q G2 σ _ (gx.g.trans gx2.g) (s2.write h h1 k2 k3 (.lst upd_same (rl.set j (Rep.mono gx2.g r1))))
      · cases e3
    · cases e⟩
end
/-- the length of the script -/
theorem d_lenS {X : Cx} {a : Expr} {f : SE} {p pos : Pos} (ha : DX X .scr a f) (hm : X.mg "len" = none) (hg : Gl X "len" := by rfl) (he : starEach [a] X.env = (false, eval a X.env) :: starEach [] X.env := by rfl) (hpl : (backTo pos (starEach [] X.env)).any (·.1) = false := by rfl) :
    DX X .val (.Call (.Name "len" p) [a] [] pos) (eCall cLen (aCons f aNil)) :=
  ⟨(pe_callB call_len hg hm PySem.boot_len (pa_cons ha.pe pa_nil he) (by decide) (by decide) he hpl).imp fun σ H Q ⟨G0, H0, G, ρ, d, s, ed, q⟩ => by
    obtain ⟨ds, e1, e2⟩ := bind_some ed
    obtain ⟨d1, e3, e4⟩ := bind_some e1
    obtain ⟨_, e5, e6⟩ := bind_some e4
    cases e5
    cases e6
    refine ⟨G0, H0, G, ρ, d1, s, e3, fun G1 H1 v gx r => ?_⟩
    obtain ⟨b, ns, rfl, rfl, hq⟩ := r
    cases e2
    refine ⟨_, _, rfl, .inl ⟨_, hq, rfl⟩, ?_⟩
    rw [List.length_map, ← List.length_map (f := PyData.int)]
    exact q G1 H1 _ gx (.int _)⟩
theorem d_vp {X : Cx} {a : Expr} {f : SE} (h : DX X .val a f) : DX X .par a f := ⟨h.pe.imp fun σ H Q ⟨G0, H0, G, ρ, d, s, ed, q⟩ => ⟨G0, H0, G, ρ, d, s, ed, fun G' H' v x r => q G' H' v x (.val r)⟩⟩
end DV

namespace DV
open PySem L2
/-! ### how the functions on data reckon -/
section
variable {i j : Int} {ρ : Rho} {f g h : SE} {d : PyData} {r : SA} {k n : Nat}
def getS : Rho → Nat → Option Slot
  | [], _ => none
  | s :: _, 0 => some s
  | _ :: r, k + 1 => getS r k
theorem bind_congr1 {α β : Type} {x y : Option α} {f : α → Option β} (h : x = y) : x.bind f = y.bind f := by rw [h]
@[simp] theorem eK_r : eK d ρ = some d := rfl
theorem getS_eq : ∀ (ρ : Rho) (k : Nat), getS ρ k = ρ[k]?
  | [], _ => by simp [getS]
  | s :: _, 0 => rfl
  | s :: r, k + 1 => by
    show getS r k = _
    rw [getS_eq r k]; rfl
@[simp] theorem getS_0 {s : Slot} : getS (s :: ρ) 0 = some s := rfl
@[simp] theorem getS_s {s : Slot} : getS (s :: ρ) (k + 1) = getS ρ k := rfl
@[simp] theorem eV_0 : eV 0 (.val d :: ρ) = some d := rfl
@[simp] theorem eV_s {s : Slot} : eV (k + 1) (s :: ρ) = eV k ρ := rfl
@[simp] theorem eB_0v : eB 0 (.val d :: ρ) = some d := rfl
@[simp] theorem eB_0b : eB 0 (.bor d :: ρ) = some d := rfl
@[simp] theorem eB_0p : eB 0 (.pin d :: ρ) = some d := rfl
@[simp] theorem eB_0o : eB 0 (.own d :: ρ) = some d := rfl
@[simp] theorem eB_s {s : Slot} : eB (k + 1) (s :: ρ) = eB k ρ := rfl
@[simp] theorem eP_0v : eP 0 (.val d :: ρ) = some d := rfl
@[simp] theorem eP_0b : eP 0 (.bor d :: ρ) = some d := rfl
@[simp] theorem eP_s {s : Slot} : eP (k + 1) (s :: ρ) = eP k ρ := rfl
@[simp] theorem eS_0 : eS 0 (.scr d :: ρ) = some d := rfl
@[simp] theorem eS_s {s : Slot} : eS (k + 1) (s :: ρ) = eS k ρ := rfl
@[simp] theorem aNil_r : aNil ρ = some [] := rfl
@[simp] theorem aCons_r : aCons f r ρ = (f ρ).bind fun d => (r ρ).bind fun ds => some (d :: ds) := rfl
@[simp] theorem eOp_r {F : PyData → PyData → Option PyData} : eOp F f g ρ = (f ρ).bind fun x => (g ρ).bind fun y => F x y := rfl
@[simp] theorem eUn_r {F : PyData → Option PyData} : eUn F f ρ = (f ρ).bind F := rfl
@[simp] theorem eCall_r {F : List PyData → Option PyData} : eCall F r ρ = (r ρ).bind F := rfl
@[simp] theorem eTup_r : eTup r ρ = (r ρ).bind fun ds => if ds.length ≤ sizeLine then some (.tuple ds) else none := rfl
@[simp] theorem eLst_r : eLst r ρ = (r ρ).bind fun ds => if ds.length ≤ sizeLine then some (.list ds) else none := rfl
@[simp] theorem eIf_r {t : SB} : eIf t f g ρ = (t ρ).bind fun k => if k = true then f ρ else g ρ := rfl
@[simp] theorem eAnd_r : eAnd f g ρ = (f ρ).bind fun x => (truth x).bind fun k => if k = true then g ρ else some x := rfl
@[simp] theorem eOr_r : eOr f g ρ = (f ρ).bind fun x => (truth x).bind fun k => if k = true then some x else g ρ := rfl
@[simp] theorem eNot_r : eNot f ρ = (f ρ).bind fun x => (truth x).map fun k => .bool !k := rfl
@[simp] theorem eIs_r {T : String} : eIs T f ρ = (f ρ).bind fun d => (isT T d).map .bool := rfl
@[simp] theorem eChain_r {F F' : PyData → PyData → Option PyData} : eChain F F' f g h ρ = (f ρ).bind fun x => (g ρ).bind fun y => (F x y).bind fun z => match z with
  | .bool true => (h ρ).bind fun w => F' y w
  | .bool false => some (.bool false)
  | _ => none := rfl
@[simp] theorem eSl_r {F : PyData → Option Int → Option Int → Option PyData} {a b : SO} : eSl F f a b ρ = (f ρ).bind fun d => (a ρ).bind fun lo => (b ρ).bind fun hi => F d lo hi := rfl
@[simp] theorem oNo_r : oNo ρ = some none := rfl
@[simp] theorem oSo_r : oSo f ρ = (f ρ).bind asI := rfl
@[simp] theorem asI_r : asI (.int i) = some (some i) := rfl
@[simp] theorem bT_r : bT f ρ = (f ρ).bind asB := rfl
@[simp] theorem bV_r : bV f ρ = (f ρ).bind truth := rfl
@[simp] theorem bYes_r : bYes ρ = some true := rfl
@[simp] theorem asB_r {b : Bool} : asB (.bool b) = some b := rfl
@[simp] theorem truth_b {b : Bool} : truth (.bool b) = some b := rfl
@[simp] theorem truth_l {l : List PyData} : truth (.list l) = some (!l.isEmpty) := rfl
@[simp] theorem truth_t {l : List PyData} : truth (.tuple l) = some (!l.isEmpty) := rfl
@[simp] theorem truth_n : truth .none = some false := rfl
@[simp] theorem truth_i : truth (.int i) = some (i != 0) := rfl
variable {t u : SB}
@[simp] theorem bAnd_r : bAnd t u ρ = (t ρ).bind fun k => if k = true then u ρ else some false := rfl
@[simp] theorem bOr_r : bOr t u ρ = (t ρ).bind fun k => if k = true then some true else u ρ := rfl
@[simp] theorem bNot_r : bNot t ρ = (t ρ).map fun k => !k := rfl
@[simp] theorem oAdd_i : oAdd (.int i) (.int j) = some (.int (i + j)) := rfl
@[simp] theorem oSub_i : oSub (.int i) (.int j) = some (.int (i - j)) := rfl
@[simp] theorem oNeg_i : oNeg (.int i) = some (.int (-i)) := rfl
@[simp] theorem oLt_i : oLt (.int i) (.int j) = some (.bool (decide (i < j))) := rfl
@[simp] theorem oLe_i : oLe (.int i) (.int j) = some (.bool (decide (i ≤ j))) := rfl
@[simp] theorem oGt_i : oGt (.int i) (.int j) = some (.bool (decide (j < i))) := rfl
@[simp] theorem oGe_i : oGe (.int i) (.int j) = some (.bool (decide (j ≤ i))) := rfl
@[simp] theorem oMod_i (h : 0 < j) : oMod (.int i) (.int j) = some (.int (i % j)) := if_pos h
@[simp] theorem oFdiv_i (h : 0 < j) (h2 : j < 18446744073709551616) : oFdiv (.int i) (.int j) = some (.int (i / j)) := if_pos ⟨h, h2⟩
theorem oMul_l (h1 : -18446744073709551616 < i) (h2 : i < 18446744073709551616) : oMulS (.int i) (.int j) = some (.int (i * j)) := if_pos (show CMul i j from .inl ⟨h1, h2⟩)
theorem oMul_r (h1 : -18446744073709551616 < j) (h2 : j < 18446744073709551616) : oMulS (.int i) (.int j) = some (.int (i * j)) := if_pos (show CMul i j from .inr ⟨h1, h2⟩)
@[simp] theorem oPow18 : oPow (.int 10) (.int 18) = some (.int 1000000000000000000) := by
  show (if CPow 10 18 then some (PyData.int (10 ^ (18 : Int).toNat)) else none) = _
  rw [if_pos (by decide)]; rfl
@[simp] theorem oPow16 : oPow (.int 10) (.int 16) = some (.int 10000000000000000) := by
  show (if CPow 10 16 then some (PyData.int (10 ^ (16 : Int).toNat)) else none) = _
  rw [if_pos (by decide)]; rfl
@[simp] theorem oPow15 : oPow (.int 10) (.int 15) = some (.int 1000000000000000) := by
  show (if CPow 10 15 then some (PyData.int (10 ^ (15 : Int).toNat)) else none) = _
  rw [if_pos (by decide)]; rfl
@[simp] theorem oPow14 : oPow (.int 10) (.int 14) = some (.int 100000000000000) := by
  show (if CPow 10 14 then some (PyData.int (10 ^ (14 : Int).toNat)) else none) = _
  rw [if_pos (by decide)]; rfl
@[simp] theorem oPow13 : oPow (.int 10) (.int 13) = some (.int 10000000000000) := by
  show (if CPow 10 13 then some (PyData.int (10 ^ (13 : Int).toNat)) else none) = _
  rw [if_pos (by decide)]; rfl
@[simp] theorem oPow12 : oPow (.int 10) (.int 12) = some (.int 1000000000000) := by
  show (if CPow 10 12 then some (PyData.int (10 ^ (12 : Int).toNat)) else none) = _
  rw [if_pos (by decide)]; rfl
@[simp] theorem oPow9 : oPow (.int 10) (.int 9) = some (.int 1000000000) := by
  show (if CPow 10 9 then some (PyData.int (10 ^ (9 : Int).toNat)) else none) = _
  rw [if_pos (by decide)]; rfl
@[simp] theorem oPow8 : oPow (.int 10) (.int 8) = some (.int 100000000) := by
  show (if CPow 10 8 then some (PyData.int (10 ^ (8 : Int).toNat)) else none) = _
  rw [if_pos (by decide)]; rfl
@[simp] theorem oPow7 : oPow (.int 10) (.int 7) = some (.int 10000000) := by
  show (if CPow 10 7 then some (PyData.int (10 ^ (7 : Int).toNat)) else none) = _
  rw [if_pos (by decide)]; rfl
@[simp] theorem oPow6 : oPow (.int 10) (.int 6) = some (.int 1000000) := by
  show (if CPow 10 6 then some (PyData.int (10 ^ (6 : Int).toNat)) else none) = _
  rw [if_pos (by decide)]; rfl
@[simp] theorem cInt_i : cInt [.int i] = some (.int i) := rfl
@[simp] theorem cInt_b {b : Bool} : cInt [.bool b] = some (.int (if b then 1 else 0)) := rfl
@[simp] theorem cAbs_i : cAbs [.int i] = some (.int (if i < 0 then -i else i)) := rfl
@[simp] theorem cMax2_i : cMax2 [.int i, .int j] = some (.int (max i j)) := by
  show some (PyData.int (if j > i then j else i)) = _
  congr 2; split <;> omega
@[simp] theorem cMin2_i : cMin2 [.int i, .int j] = some (.int (min i j)) := by
  show some (PyData.int (if j < i then j else i)) = _
  congr 2; split <;> omega
@[simp] theorem cLen_l {l : List PyData} : cLen [.list l] = some (.int (l.length : Nat)) := rfl
@[simp] theorem cLen_t {l : List PyData} : cLen [.tuple l] = some (.int (l.length : Nat)) := rfl
@[simp] theorem cList_l {l : List PyData} : cList [.list l] = some (.list l) := rfl
@[simp] theorem cList_t {l : List PyData} : cList [.tuple l] = some (.list l) := rfl
@[simp] theorem cSum_i {l : List Int} : cSum [.list (l.map .int)] = some (.int l.sum) := by
  show (intsOf (l.map .int)).map _ = _
  rw [intsOf_map]; rfl
@[simp] theorem isT_int_i : isT "int" (.int i) = some true := rfl
@[simp] theorem isT_bool_i : isT "bool" (.int i) = some false := rfl
@[simp] theorem isT_bool_b {b : Bool} : isT "bool" (.bool b) = some true := rfl
@[simp] theorem isT_int_b {b : Bool} : isT "int" (.bool b) = some true := rfl
@[simp] theorem isT_tuple_t {l : List PyData} : isT "tuple" (.tuple l) = some true := rfl
@[simp] theorem isT_list_l {l : List PyData} : isT "list" (.list l) = some true := rfl
@[simp] theorem oEq_i : oEq (.int i) (.int j) = some (.bool (decide (i = j))) := by
  show (if SeqAt.shaped (.int i) = true ∧ SeqAt.shaped (.int j) = true then some (PyData.bool (PyData.eqv (.int i) (.int j))) else none) = _
  rw [if_pos ⟨rfl, rfl⟩]
  show some (PyData.bool (i == j)) = _
  rw [Bool.beq_eq_decide_eq]
@[simp] theorem oNe_i : oNe (.int i) (.int j) = some (.bool (!decide (i = j))) := by
  show (if SeqAt.shaped (.int i) = true ∧ SeqAt.shaped (.int j) = true then some (PyData.bool (!PyData.eqv (.int i) (.int j))) else none) = _
  rw [if_pos ⟨rfl, rfl⟩]
  show some (PyData.bool (!(i == j))) = _
  rw [Bool.beq_eq_decide_eq]
@[simp] theorem oEq_b {a b : Bool} : oEq (.bool a) (.bool b) = some (.bool (a == b)) := if_pos ⟨rfl, rfl⟩
@[simp] theorem oNe_b {a b : Bool} : oNe (.bool a) (.bool b) = some (.bool (!(a == b))) := if_pos ⟨rfl, rfl⟩
@[simp] theorem oIsN_n : oIsN .none .none = some (.bool true) := rfl
@[simp] theorem oNotN_n : oNotN .none .none = some (.bool false) := rfl
@[simp] theorem oIsN_i : oIsN (.int i) .none = some (.bool false) := rfl
@[simp] theorem oNotN_i : oNotN (.int i) .none = some (.bool true) := rfl
@[simp] theorem oIsB_b {a b : Bool} : oIsB (.bool a) (.bool b) = some (.bool (decide (a = b))) := rfl
@[simp] theorem oNotB_b {a b : Bool} : oNotB (.bool a) (.bool b) = some (.bool (!decide (a = b))) := rfl
/-- an item of data, by a place -/
theorem atI_pos {α : Type} {l : List α} (h0 : 0 ≤ i) : atI l i = l[i.toNat]? := by
  unfold L2.atI ixN
  rw [if_pos h0]
  by_cases h : i < l.length
  · rw [if_pos h]; rfl
  · rw [if_neg h]
    show none = _
    rw [List.getElem?_eq_none (by omega)]
theorem atI_neg {α : Type} {l : List α} (h0 : i < 0) (h1 : -(l.length : Int) ≤ i) : atI l i = l[(i + l.length).toNat]? := by
  unfold L2.atI ixN
  rw [if_neg (by omega), if_pos h1]; rfl
@[simp] theorem oIx_l {l : List PyData} : oIx (.list l) (.int i) = atI l i := rfl
@[simp] theorem oIx_t {l : List PyData} : oIx (.tuple l) (.int i) = atI l i := rfl
@[simp] theorem atI_0 {α : Type} {a : α} {l : List α} : atI (a :: l) 0 = some a := by rw [atI_pos (by decide)]; rfl
@[simp] theorem atI_1 {α : Type} {a b : α} {l : List α} : atI (a :: b :: l) 1 = some b := by rw [atI_pos (by decide)]; rfl
@[simp] theorem atI_2 {α : Type} {a b c : α} {l : List α} : atI (a :: b :: c :: l) 2 = some c := by rw [atI_pos (by decide)]; rfl
@[simp] theorem atI_3 {α : Type} {a b c e : α} {l : List α} : atI (a :: b :: c :: e :: l) 3 = some e := by rw [atI_pos (by decide)]; rfl
theorem atI_lt {α : Type} {l : List α} (h0 : 0 ≤ i) (h1 : i < l.length) : atI l i = some (l[i.toNat]'(by omega)) := by
  rw [atI_pos h0]; exact List.getElem?_eq_getElem (by omega)
theorem atI_ex {α : Type} {l : List α} (h0 : 0 ≤ i) (h1 : i < l.length) : ∃ v, v ∈ l ∧ atI l i = some v := ⟨_, List.getElem_mem _, atI_lt h0 h1⟩
theorem pickI (l : List Int) {i : Int} (h0 : 0 ≤ i) (h1 : i < l.length) : ∃ v, v ∈ l ∧ atI (l.map PyData.int) i = some (.int v) := by
  obtain ⟨v, h2, h3⟩ := atI_ex (l := l.map PyData.int) h0 (by rw [List.length_map]; exact h1)
  obtain ⟨w, h4, rfl⟩ := List.mem_map.mp h2
  exact ⟨w, h4, h3⟩
end
/-! ### statements -/
section
variable {ρ ρ' : Rho} {f g : SS} {e : SE} {t : SB} {k : Nat} {d : PyData} {o : Out}
theorem seq_nx (h : f ρ = some (.nx ρ')) : sSeqn f g ρ = g ρ' := by unfold sSeqn; rw [h]; rfl
theorem seq_rt (h : f ρ = some (.rt d)) : sSeqn f g ρ = some (.rt d) := by unfold sSeqn; rw [h]; rfl
theorem seq_ct (h : f ρ = some (.ct ρ')) : sSeqn f g ρ = some (.ct ρ') := by unfold sSeqn; rw [h]; rfl
theorem seq_bk (h : f ρ = some (.bk ρ')) : sSeqn f g ρ = some (.bk ρ') := by unfold sSeqn; rw [h]; rfl
@[simp] theorem sSeqn_r : sSeqn f g ρ = (f ρ).bind fun o => match o with | .nx ρ' => g ρ' | o => some o := rfl
@[simp] theorem sNext_r : sNext ρ = some (.nx ρ) := rfl
@[simp] theorem sBrk_r : sBrk ρ = some (.bk ρ) := rfl
@[simp] theorem sCnt_r : sCnt ρ = some (.ct ρ) := rfl
@[simp] theorem sRetN_r : sRetN ρ = some (.rt .none) := rfl
@[simp] theorem sExpr_r : sExpr e ρ = (e ρ).bind fun _ => some (.nx ρ) := rfl
@[simp] theorem sRet_r : sRet e ρ = (e ρ).bind fun d => some (.rt d) := rfl
@[simp] theorem sRetOwn_r : sRetOwn k ρ = (match getS ρ k with | some (.own d) => some (.rt d) | _ => none) := by rw [getS_eq]; rfl
@[simp] theorem sIf_r : sIf t f g ρ = (t ρ).bind fun k => if k = true then f ρ else g ρ := rfl
@[simp] theorem sSet_r : sSet k e ρ = (e ρ).bind fun d => if k < ρ.length then some (.nx (ρ.set k (.val d))) else none := rfl
@[simp] theorem sOwn_r : sOwn k e ρ = (e ρ).bind fun d => if k < ρ.length then some (.nx (ρ.set k (.own d))) else none := rfl
@[simp] theorem sAsg_r {g : SG} : sAsg e g ρ = (e ρ).bind fun d => (g d ρ).bind fun ρ' => some (.nx ρ') := rfl
@[simp] theorem gV_r : gV k d ρ = if k < ρ.length then some (ρ.set k (.val d)) else none := rfl
@[simp] theorem gT_r {n : Nat} {r : SGs} {ds : List PyData} : gT n r (.tuple ds) ρ = if ds.length = n then r ds ρ else none := rfl
@[simp] theorem gsNil_r : gsNil [] ρ = some ρ := rfl
@[simp] theorem gsCons_r {g : SG} {r : SGs} {ds : List PyData} : gsCons g r (d :: ds) ρ = (g d ρ).bind fun ρ' => r ds ρ' := rfl
@[simp] theorem sFz_r : sFz k f ρ = (match getS ρ k with | some (.own d) => f (ρ.set k (.val d)) | some (.val _) => f ρ | _ => none) := by rw [getS_eq]; rfl
@[simp] theorem sAug_r {F : PyData → PyData → Option PyData} : sAug k F e ρ = (eV k ρ).bind fun x => (e ρ).bind fun y => (F x y).bind fun d => some (.nx (ρ.set k (.val d))) := rfl
@[simp] theorem addI_r {i j : Int} : addI (.int i) (.int j) = some (.int (i + j)) := rfl
@[simp] theorem subI_r {i j : Int} : subI (.int i) (.int j) = some (.int (i - j)) := rfl
@[simp] theorem sFor_r {fi : SI} {g : SG} {b : SS} : sFor fi g b ρ = (fi ρ).bind fun ds => forGo g b ds ρ := rfl
@[simp] theorem sSeq_r : sSeq e ρ = (e ρ).bind itemsOf := rfl
@[simp] theorem sArgs_r {F : List PyData → Option (List PyData)} {r : SA} : sArgs F r ρ = (r ρ).bind F := rfl
@[simp] theorem itemsOf_l {l : List PyData} : itemsOf (.list l) = some l := rfl
@[simp] theorem itemsOf_t {l : List PyData} : itemsOf (.tuple l) = some l := rfl
@[simp] theorem sMut_r {F : List PyData → List PyData → Option PyData} {r : SA} : sMut F k r ρ = (match getS ρ k with | some (.own (.list l)) => (r ρ).bind fun ds => (F l ds).bind fun d => some (.nx (ρ.set k (.own d))) | _ => none) := by rw [getS_eq]; rfl
@[simp] theorem fApp_r {l : List PyData} : fApp l [d] = if l.length < sizeLine then some (.list (l ++ [d])) else none := rfl
@[simp] theorem slotsOf_nil : slotsOf [] [] = [] := rfl
@[simp] theorem slotsOf_val {ms : List Md} {ds : List PyData} : slotsOf (.val :: ms) (d :: ds) = .val d :: slotsOf ms ds := rfl
@[simp] theorem slotsOf_bor {ms : List Md} {ds : List PyData} : slotsOf (.bor :: ms) (d :: ds) = .bor d :: slotsOf ms ds := rfl
@[simp] theorem slotsOf_scr {ms : List Md} {ds : List PyData} : slotsOf (.scr :: ms) (d :: ds) = .scr d :: slotsOf ms ds := rfl
/-- a def's value: from how its body ends -/
theorem runF_rt {n : Nat} {rm : Md} {ms : List Md} {ds : List PyData} (hl : ds.length = ms.length) (h : f (slotsOf ms ds ++ List.replicate (n - ds.length) .un) = some (.rt d)) : runF n rm ms f ds = some d := by
  unfold runF
  rw [if_pos hl, h]
  cases rm <;> rfl
theorem size_le {n : Nat} (h : n ≤ 16777216) : n ≤ sizeLine := by rw [sizeLine_eq]; exact h
/-! ### loops -/
/-- a loop that runs to its end: an invariant by the turn -/
theorem for_all {g : SG} {b : SS} {ds : List PyData} (I : Nat → Rho → Prop) (h0 : I 0 ρ)
    (turn : ∀ i d ρ, ds[i]? = some d → I i ρ → ∃ ρ1 ρ', g d ρ = some ρ1 ∧ (b ρ1 = some (.nx ρ') ∨ b ρ1 = some (.ct ρ')) ∧ I (i + 1) ρ') : ∃ ρ', forGo g b ds ρ = some (.nx ρ') ∧ I ds.length ρ' := by
  have key : ∀ (rest : List PyData) (i : Nat) (ρ : Rho), i ≤ ds.length → ds.drop i = rest → I i ρ → ∃ ρ', forGo g b rest ρ = some (.nx ρ') ∧ I ds.length ρ' := by
    intro rest
    induction rest with
    | nil =>
      intro i ρ hle hd hi
      have : ds.length ≤ i := List.drop_eq_nil_iff.mp hd
      have e : i = ds.length := by omega
      exact ⟨ρ, rfl, by rw [← e]; exact hi⟩
    | cons d r ih =>
      intro i ρ hle hd hi
      have hlt : i < ds.length := by
        have := congrArg List.length hd
        rw [List.length_drop, List.length_cons] at this
        omega
      have h1 : ds[i]? = some d := by
        rw [← List.head?_drop, hd]; rfl
      obtain ⟨ρ1, ρ', e1, e2, e3⟩ := turn i d ρ h1 hi
      have h2 : ds.drop (i + 1) = r := by rw [← List.tail_drop, hd]; rfl
      obtain ⟨ρ2, e4, e5⟩ := ih (i + 1) ρ' hlt h2 e3
      refine ⟨ρ2, ?_, e5⟩
      unfold forGo
      rw [e1]
      rcases e2 with e2 | e2
      · show (b ρ1).bind _ = _
        rw [e2]; exact e4
      · show (b ρ1).bind _ = _
        rw [e2]; exact e4
  exact key ds 0 ρ (Nat.zero_le _) rfl h0
end
/-! ### == of plain data (no bools, no dicts) -/
mutual
def clean : Nat → PyData → Bool
  | _, .none => true
  | _, .int _ => true
  | _, .str x => PyData.strOk x
  | n + 1, .list l => cleanA n l
  | n + 1, .tuple l => cleanA n l
  | _, _ => false
def cleanA : Nat → List PyData → Bool
  | _, [] => true
  | n, d :: r => clean n d && cleanA n r
end
mutual
theorem clean_lay : ∀ (n : Nat) (d : PyData), clean n d = true → d.canLay0 = true ∧ d.depth ≤ n
  | _, .none, _ => ⟨by simp [PyData.canLay0], by simp [PyData.depth]⟩
  | _, .int _, _ => ⟨by simp [PyData.canLay0], by simp [PyData.depth]⟩
  | _, .bool _, h => by simp [clean] at h
  | _, .str x, h => ⟨by simpa [PyData.canLay0, clean] using h, by simp [PyData.depth]⟩
  | 0, .list l, h => by simp [clean] at h
  | 0, .tuple l, h => by simp [clean] at h
  | n + 1, .list l, h => by
    obtain ⟨h1, h2⟩ := cleanA_lay n l (by simpa [clean] using h)
    exact ⟨by simpa [PyData.canLay0] using h1, by simpa [PyData.depth] using h2⟩
  | n + 1, .tuple l, h => by
    obtain ⟨h1, h2⟩ := cleanA_lay n l (by simpa [clean] using h)
    exact ⟨by simpa [PyData.canLay0] using h1, by simpa [PyData.depth] using h2⟩
  | _, .dict _, h => by simp [clean] at h
theorem cleanA_lay : ∀ (n : Nat) (l : List PyData), cleanA n l = true → PyData.canLayAll0 l = true ∧ PyData.depthAll l ≤ n
  | _, [], _ => ⟨by simp [PyData.canLayAll0], by simp [PyData.depthAll]⟩
  | n, d :: r, h => by
    have h' : clean n d = true ∧ cleanA n r = true := by simpa [cleanA] using h
    obtain ⟨a1, a2⟩ := clean_lay n d h'.1
    obtain ⟨b1, b2⟩ := cleanA_lay n r h'.2
    exact ⟨by simp [PyData.canLayAll0, a1, b1], by simp only [PyData.depthAll]; omega⟩
end
mutual
theorem eqv_iff : ∀ (n : Nat) (d e : PyData), clean n d = true → clean n e = true → (PyData.eqv d e = true ↔ d = e)
  | _, .none, .none, _, _ => by simp [PyData.eqv]
  | _, .none, .int _, _, _ => by simp [PyData.eqv]
  | _, .none, .str _, _, _ => by simp [PyData.eqv]
  | _, .none, .list _, _, _ => by simp [PyData.eqv]
  | _, .none, .tuple _, _, _ => by simp [PyData.eqv]
  | _, .int _, .none, _, _ => by simp [PyData.eqv]
  | _, .int _, .int _, _, _ => by simp [PyData.eqv]
  | _, .int _, .str _, _, _ => by simp [PyData.eqv]
  | _, .int _, .list _, _, _ => by simp [PyData.eqv]
  | _, .int _, .tuple _, _, _ => by simp [PyData.eqv]
  | _, .str _, .none, _, _ => by simp [PyData.eqv]
  | _, .str _, .int _, _, _ => by simp [PyData.eqv]
  | _, .str _, .str _, _, _ => by simp [PyData.eqv]
  | _, .str _, .list _, _, _ => by simp [PyData.eqv]
  | _, .str _, .tuple _, _, _ => by simp [PyData.eqv]
  | _, .list _, .none, _, _ => by simp [PyData.eqv]
  | _, .list _, .int _, _, _ => by simp [PyData.eqv]
  | _, .list _, .str _, _, _ => by simp [PyData.eqv]
  | 0, .list _, .list _, h, _ => by simp [clean] at h
  | n + 1, .list l, .list k, h, h2 => by
    have := eqvA_iff n l k (by simpa [clean] using h) (by simpa [clean] using h2)
    simp only [PyData.eqv, this, PyData.list.injEq]
  | _, .list _, .tuple _, _, _ => by simp [PyData.eqv]
  | _, .tuple _, .none, _, _ => by simp [PyData.eqv]
  | _, .tuple _, .int _, _, _ => by simp [PyData.eqv]
  | _, .tuple _, .str _, _, _ => by simp [PyData.eqv]
  | _, .tuple _, .list _, _, _ => by simp [PyData.eqv]
  | 0, .tuple _, .tuple _, h, _ => by simp [clean] at h
  | n + 1, .tuple l, .tuple k, h, h2 => by
    have := eqvA_iff n l k (by simpa [clean] using h) (by simpa [clean] using h2)
    simp only [PyData.eqv, this, PyData.tuple.injEq]
  | _, .bool _, _, h, _ => by simp [clean] at h
  | _, .dict _, _, h, _ => by simp [clean] at h
  | _, _, .bool _, _, h => by simp [clean] at h
  | _, _, .dict _, _, h => by simp [clean] at h
theorem eqvA_iff : ∀ (n : Nat) (l k : List PyData), cleanA n l = true → cleanA n k = true → (PyData.eqvAll l k = true ↔ l = k)
  | _, [], [], _, _ => by simp [PyData.eqvAll]
  | _, [], _ :: _, _, _ => by simp [PyData.eqvAll]
  | _, _ :: _, [], _, _ => by simp [PyData.eqvAll]
  | n, d :: l, e :: k, h, h2 => by
    have h' : clean n d = true ∧ cleanA n l = true := by simpa [cleanA] using h
    have h2' : clean n e = true ∧ cleanA n k = true := by simpa [cleanA] using h2
    have a := eqv_iff n d e h'.1 h2'.1
    have b := eqvA_iff n l k h'.2 h2'.2
    simp only [PyData.eqvAll, Bool.and_eq_true, a, b, List.cons.injEq]
end
theorem clean_shaped {n : Nat} {d : PyData} (hn : n ≤ 64) (h : clean n d = true) : SeqAt.shaped d = true := by
  obtain ⟨h1, h2⟩ := clean_lay n d h
  unfold SeqAt.shaped
  rw [h1, Bool.true_and]
  exact decide_eq_true (by omega)
theorem oEq_c {d e : PyData} (h1 : clean 9 d = true) (h2 : clean 9 e = true) : oEq d e = some (.bool (PyData.eqv d e)) := if_pos ⟨clean_shaped (by decide) h1, clean_shaped (by decide) h2⟩
theorem oNe_c {d e : PyData} (h1 : clean 9 d = true) (h2 : clean 9 e = true) : oNe d e = some (.bool (!PyData.eqv d e)) := if_pos ⟨clean_shaped (by decide) h1, clean_shaped (by decide) h2⟩
theorem oEq_self {d : PyData} (h1 : clean 9 d = true) : oEq d d = some (.bool true) := by rw [oEq_c h1 h1, (eqv_iff 9 d d h1 h1).mpr rfl]
theorem oNe_self {d : PyData} (h1 : clean 9 d = true) : oNe d d = some (.bool false) := by rw [oNe_c h1 h1, (eqv_iff 9 d d h1 h1).mpr rfl]; rfl
theorem eqv_dec {d e : PyData} (h1 : clean 9 d = true) (h2 : clean 9 e = true) (c : Prop) [Decidable c] (h : d = e ↔ c) : PyData.eqv d e = decide c := by
  have := eqv_iff 9 d e h1 h2
  by_cases q : c
  · rw [decide_eq_true q]; exact this.mpr (h.mpr q)
  · rw [decide_eq_false q]
    cases z : PyData.eqv d e with
    | false => rfl
    | true => exact absurd (h.mp (this.mp z)) q
/-- a rectangle -/
abbrev rD (x y w h : Int) : PyData := .tuple [.int x, .int y, .int w, .int h]
theorem clean_r {n : Nat} (x y w h : Int) : clean (n + 1) (rD x y w h) = true := by simp [clean, cleanA]
theorem oEq_r {x y w h x' y' w' h' : Int} : oEq (rD x y w h) (rD x' y' w' h') = some (.bool (decide (x = x' ∧ y = y' ∧ w = w' ∧ h = h'))) := by
  rw [oEq_c (clean_r ..) (clean_r ..), eqv_dec (clean_r ..) (clean_r ..) (x = x' ∧ y = y' ∧ w = w' ∧ h = h') (by simp)]
theorem oNe_r {x y w h x' y' w' h' : Int} : oNe (rD x y w h) (rD x' y' w' h') = some (.bool (!decide (x = x' ∧ y = y' ∧ w = w' ∧ h = h'))) := by
  rw [oNe_c (clean_r ..) (clean_r ..), eqv_dec (clean_r ..) (clean_r ..) (x = x' ∧ y = y' ∧ w = w' ∧ h = h') (by simp)]
/-! ### comprehensions over encoded lists -/
section
variable {ρ : Rho} {g : SG} {t : SB} {e : SE} {α : Type}
@[simp] theorem eLc_r {fi : SI} {vs : List Nat} : eLc fi g t e vs ρ = (fi ρ).bind fun ds => (lcGo g t e (wipeR ρ vs) ds).bind fun ys => if ys.length ≤ sizeLine then some (.list ys) else none := rfl
@[simp] theorem wipeR_nil : wipeR ρ [] = ρ := rfl
@[simp] theorem wipeR_cons {v : Nat} {vs : List Nat} : wipeR ρ (v :: vs) = (wipeR ρ vs).set v .un := rfl
theorem lcGo_filter (enc f : α → PyData) (p : α → Bool) : ∀ (xs : List α), (∀ a ∈ xs, ∃ ρ1, g (enc a) ρ = some ρ1 ∧ t ρ1 = some (p a) ∧ (p a = true → e ρ1 = some (f a))) → lcGo g t e ρ (xs.map enc) = some ((xs.filter p).map f)
  | [], _ => rfl
  | a :: r, h => by
    obtain ⟨ρ1, h1, h2, h3⟩ := h a List.mem_cons_self
    have ih := lcGo_filter enc f p r fun b hb => h b (List.mem_cons_of_mem _ hb)
    show (g (enc a) ρ).bind _ = _
    rw [h1]
    show (t ρ1).bind _ = _
    rw [h2]
    cases hp : p a with
    | true =>
      show (e ρ1).bind _ = _
      rw [h3 hp]
      show (lcGo g t e ρ (r.map enc)).bind _ = _
      rw [ih, List.filter_cons_of_pos hp]; rfl
    | false =>
      show lcGo g t e ρ (r.map enc) = _
      rw [ih, List.filter_cons_of_neg (by rw [hp]; exact Bool.false_ne_true)]
theorem lcGo_map (enc f : α → PyData) (xs : List α) (h : ∀ a ∈ xs, ∃ ρ1, g (enc a) ρ = some ρ1 ∧ t ρ1 = some true ∧ e ρ1 = some (f a)) : lcGo g t e ρ (xs.map enc) = some (xs.map f) := by
  have := lcGo_filter (ρ := ρ) (g := g) (t := t) (e := e) enc f (fun _ => true) xs fun a ha => by
    obtain ⟨ρ1, h1, h2, h3⟩ := h a ha
    exact ⟨ρ1, h1, h2, fun _ => h3⟩
  rw [this]
  congr 2
  exact List.filter_eq_self.mpr fun _ _ => rfl
/-- a part of a list -/
def cutG (xs : List α) (lo hi : Option Int) : List α := (xs.drop (HT.sIx xs.length 0 lo)).take (HT.sIx xs.length xs.length hi - HT.sIx xs.length 0 lo)
theorem cutD_map (f : α → PyData) (xs : List α) (lo hi : Option Int) : cutD (xs.map f) lo hi = (cutG xs lo hi).map f := by
  unfold cutD cutG
  rw [List.length_map, List.map_take, List.map_drop]
theorem cutG_len (xs : List α) {i j : Int} (h0 : 0 ≤ i) (h1 : i ≤ j) : (cutG xs (some i) (some j)).length ≤ (j - i).toNat := by
  unfold cutG
  obtain ⟨a, rfl⟩ := Int.eq_ofNat_of_zero_le h0
  obtain ⟨b, rfl⟩ := Int.eq_ofNat_of_zero_le (Int.le_trans h0 h1)
  rw [HT.sIx_nat, HT.sIx_nat, List.length_take, List.length_drop]
  omega
@[simp] theorem oSlL_l {l : List PyData} {lo hi : Option Int} : oSlL (.list l) lo hi = some (.list (cutD l lo hi)) := rfl
@[simp] theorem oSl_l {l : List PyData} {lo hi : Option Int} : oSl (.list l) lo hi = some (.list (cutD l lo hi)) := rfl
@[simp] theorem rng1_r {j : Int} (h1 : -4611686018427387904 ≤ j) (h2 : j < 4611686018427387904) : rng1 [.int j] = some (rangeD 0 j.toNat) := if_pos ⟨by omega, by omega⟩
@[simp] theorem rng2_r {i j : Int} (h1 : -4611686018427387904 ≤ i) (h2 : i < 4611686018427387904) (h3 : -4611686018427387904 ≤ j) (h4 : j < 4611686018427387904) : rng2 [.int i, .int j] = some (rangeD i (j - i).toNat) := if_pos ⟨by omega, by omega, by omega, by omega⟩
theorem rangeD_map (lo : Int) (n : Nat) : rangeD lo n = ((List.range n).map fun i : Nat => lo + (i : Int)).map .int := by
  unfold rangeD; rw [List.map_map]; rfl
end
/-- rectangles, encoded -/
abbrev R4 := Int × Int × Int × Int
def encR (r : R4) : PyData := rD r.1 r.2.1 r.2.2.1 r.2.2.2
theorem cleanA_map {α : Type} {n : Nat} {f : α → PyData} (h : ∀ a, clean n (f a) = true) (l : List α) : cleanA n (l.map f) = true := by
  induction l with
  | nil => simp [cleanA]
  | cons a r ih => simp [cleanA, h, ih]
theorem clean_rs (l : List R4) : clean 9 (.list (l.map encR)) = true := by
  show cleanA 8 _ = true
  exact cleanA_map (fun a => clean_r ..) l
theorem encR_inj {a b : R4} (h : encR a = encR b) : a = b := by
  simp [encR] at h
  ext <;> simp [h]
theorem map_inj {α : Type} {f : α → PyData} (h : ∀ {a b}, f a = f b → a = b) : ∀ {l k : List α}, l.map f = k.map f → l = k
  | [], [], _ => rfl
  | [], _ :: _, e => by simp at e
  | _ :: _, [], e => by simp at e
  | a :: l, b :: k, e => by
    simp only [List.map_cons, List.cons.injEq] at e
    rw [h e.1, map_inj h e.2]
theorem oEq_rs (l k : List R4) : oEq (.list (l.map encR)) (.list (k.map encR)) = some (.bool (decide (l = k))) := by
  rw [oEq_c (clean_rs l) (clean_rs k), eqv_dec (clean_rs l) (clean_rs k) (l = k)]
  simp only [PyData.list.injEq]
  exact ⟨fun h => map_inj encR_inj h, fun h => by rw [h]⟩
theorem oNe_rs (l k : List R4) : oNe (.list (l.map encR)) (.list (k.map encR)) = some (.bool (!decide (l = k))) := by
  rw [oNe_c (clean_rs l) (clean_rs k), eqv_dec (clean_rs l) (clean_rs k) (l = k)]
  simp only [PyData.list.injEq]
  exact ⟨fun h => map_inj encR_inj h, fun h => by rw [h]⟩
end DV

namespace DV
open PySem L2 PySem.Spec PyProof.Rows
section
variable {X : Cx} {K : PySem.W.Frag} {a b e : Expr} {f g fe : SE} {rm : Md} {x : Str} {pos p1 apos cpos : Pos}
/-! ### in -/
theorem op_inA (hu : X.A.units + 65 < cLine) : OpR X (compareOp .In) (fun x y H Q => (∃ (c : Nat) (z : Str), x = .str ⟨#[c]⟩ ∧ y = .str z ∧ Q (.bl (decide (c ∈ z.cps.toList))) H) ∨ rInD X.K x y H Q) := OpR.or op_in_sign (op_inD hu)
theorem op_notInA (hu : X.A.units + 65 < cLine) : OpR X (compareOp .NotIn) (fun x y H Q => (∃ (c : Nat) (z : Str), x = .str ⟨#[c]⟩ ∧ y = .str z ∧ Q (.bl (!decide (c ∈ z.cps.toList))) H) ∨ rNotInD X.K x y H Q) := OpR.or op_notIn_sign (op_notInD hu)
theorem units65 {k : Nat} {A : Around} (r : Room k A) : A.units + 65 < cLine := by have := r.un; omega
def oIn (a b : PyData) : Option PyData := match b with
  | .list ds => if SeqAt.shaped a = true ∧ SeqAt.shaped (.list ds) = true then some (.bool (ds.any fun z => PyData.eqv z a)) else none
  | b => oInS a b
def oNotIn (a b : PyData) : Option PyData := match b with
  | .list ds => if SeqAt.shaped a = true ∧ SeqAt.shaped (.list ds) = true then some (.bool (!ds.any fun z => PyData.eqv z a)) else none
  | b => oNotInS a b
theorem opf_in {X : Cx} : OpF X.K .val (fun x y H Q => (∃ (c : Nat) (z : Str), x = .str ⟨#[c]⟩ ∧ y = .str z ∧ Q (.bl (decide (c ∈ z.cps.toList))) H) ∨ rInD X.K x y H Q) oIn := fun G H d1 d2 d x y Q e r1 r2 h q => by
  unfold oIn at h
  split at h
  · obtain ⟨⟨c1, c2⟩, rfl⟩ := if_some h
    exact .inr ⟨d1, _, r1.dp e (SeqAt.canLay_of_shaped c1), r2.dp e (SeqAt.canLay_of_shaped c2), c1, c2, q G H _ (Gx.refl e) fun _ => .bl _⟩
  · exact .inl (opf_inS G H d1 d2 d x y Q e r1 r2 h q)
theorem opf_notIn {X : Cx} : OpF X.K .val (fun x y H Q => (∃ (c : Nat) (z : Str), x = .str ⟨#[c]⟩ ∧ y = .str z ∧ Q (.bl (!decide (c ∈ z.cps.toList))) H) ∨ rNotInD X.K x y H Q) oNotIn := fun G H d1 d2 d x y Q e r1 r2 h q => by
  unfold oNotIn at h
  split at h
  · obtain ⟨⟨c1, c2⟩, rfl⟩ := if_some h
    exact .inr ⟨d1, _, r1.dp e (SeqAt.canLay_of_shaped c1), r2.dp e (SeqAt.canLay_of_shaped c2), c1, c2, q G H _ (Gx.refl e) fun _ => .bl _⟩
  · exact .inl (opf_notInS G H d1 d2 d x y Q e r1 r2 h q)
/-! ### x[i] += v of an own list -/
def rGetL : V → V → Hp → VK → Prop := fun o i H Q => ∃ p xs k v, o = .ref p ∧ i = .int k ∧ H p = some (.lst xs) ∧ atI xs k = some v ∧ Q v H
theorem get_list : PGet X rGetL := by
  intro pins s σ H x y v u Q I rx ry h
  obtain ⟨p, xs, i, z, rfl, rfl, hq, he, q⟩ := h
  cases rx
  obtain ⟨t, rfl⟩ := ry
  obtain ⟨its, r, pl, hz⟩ := I.list (.inl (.inl hq))
  obtain ⟨j, h1, h2, h3, h4, h5⟩ := atI_get he
  obtain ⟨w, ew, rw'⟩ := r.get h2
  have hl := r.length
  have hn := line63
  have fin : EP X pins σ Q w s := ⟨z, H, I, rw', q⟩
  by_cases h0 : 0 ≤ i
  · have hj : i.toNat = j := by
      rw [seqIndex_of h0 h5] at h1
      exact Option.some.inj h1
    exact wpAny_getItem_list pl.isList h0 (by omega) (by rw [hj]; simpa using ew) fin
  · have hj : (i + (its.toArray.size : Int)).toNat = j := by
      rw [seqIndex_neg (by omega) h4] at h1
      rw [List.size_toArray, ← hl]
      exact Option.some.inj h1
    exact wpAny_getItem_list_neg pl.isList (by omega) (by rw [List.size_toArray] <;> omega) (by omega) (by rw [hj]; simpa using ew) fin
def sPutOp (i : Nat) (F : Int → Int → Int) (fi fv : SE) : SS := fun ρ => match ρ[i]? with
  | some (.own (.list l)) => (fi ρ).bind fun k => match k with
    | .int k => (atI l k).bind fun x => match x with
      | .int x => (fv ρ).bind fun y => match y with
        | .int y => (ixN l.length k).map fun j => .nx (ρ.set i (.own (.list (l.set j (.int (F x y))))))
        | _ => none
      | _ => none
    | _ => none
  | _ => none
theorem atI_RepA {K : PySem.W.Frag} {G : Hp} {ds : List PyData} {vs : List V} (r : RepA K G ds vs) {k : Int} {d : PyData} (h : atI ds k = some d) : ∃ v, atI vs k = some v ∧ Rep K G d v := by
  unfold atI at h ⊢
  rw [← r.len]
  cases e : ixN ds.length k with
  | none => rw [e] at h; cases h
  | some j =>
    rw [e] at h
    obtain ⟨v, h1, h2⟩ := r.get h
    exact ⟨v, h1, h2⟩
theorem s_putOp (i : Nat) {op : Operator} {F : Int → Int → Int} {tpos : Pos} (hp : PIp X op (ipI F)) (he : DX X .val e g) (hi : DX X .val b f) (hN : X.N[i]? = some x := by rfl) (hv : Vis X.env.scope x := by first | exact Or.inl rfl | exact Or.inr (Or.inl rfl) | exact Or.inr (Or.inr rfl)) (hd : (x == ("__debug__" : Str)) = false := by decide)
    (hcd : (x == ("__classdict__" : Str)) = false := by decide)
    (ha : ∀ ov iv new, augStore b ov iv new = (do holding [new, ov, iv] (setItem ov iv new); release [new, ov, iv] []; pure .next) := by intros; rfl) :
    DS X rm (.AugAssign (.Subscript (.Name x p1) b tpos) op e pos) (sPutOp i F f g) :=
  ⟨(ps_augS (pv i hN hv hd hcd) hi.pe get_list he.pe hp set_list ha).imp fun D σ H ⟨G0, H0, G, ρ, o, s, ed, q⟩ => by
    unfold sPutOp at ed
    split at ed
    · rename_i l h
      obtain ⟨k, e2, ed⟩ := bind_some ed
      split at ed
      · rename_i kk
        obtain ⟨x0, e3, ed⟩ := bind_some ed
        split at ed
        · rename_i xx
          obtain ⟨y0, e4, ed⟩ := bind_some ed
          split at ed
          · rename_i yy
            obtain ⟨j, hj, rfl⟩ := map_some ed
            obtain ⟨p, h1, h2, h3, h4⟩ := s.own h
            refine ⟨_, h1, G0, H0, G, ρ, _, s, e2, fun G1 H1 i1 gx1 r1 => ?_⟩
            have s1 := s.gx' gx1
            obtain ⟨p1', k1, k2, k3, k4⟩ := s1.own h
            rw [h1] at k1; cases k1
            obtain ⟨vs, hv', rl⟩ := own_list k4
            cases (show Rep X.K G1 (.int kk) i1 from r1)
            obtain ⟨v1, hv1, rv1⟩ := atI_RepA rl e3
            cases rv1
            refine ⟨p, vs, kk, _, rfl, rfl, hv', hv1, G0, H0, G1, ρ, _, s1, e4, fun G2 H2 y2 gx2 r2 => ?_⟩
            have s2 := s1.gx' gx2
            obtain ⟨p2, m1, m2, m3, m4⟩ := s2.own h
            rw [h1] at m1; cases m1
            obtain ⟨vs2, hv2, rl2⟩ := own_list m4
            cases (show Rep X.K G2 (.int yy) y2 from r2)
            refine ⟨xx, yy, rfl, rfl, p, vs2, kk, j, rfl, rfl, hv2, by rw [← rl2.len]; exact hj, ?_⟩
            exact q G2 σ _ (gx1.g.trans gx2.g) (s2.write h h1 m2 m3 (.lst upd_same (rl2.set j (.int _))))
          · cases ed
        · cases ed
      · cases ed
    · cases ed⟩
end
@[simp] theorem sPutOp_r {F : Int → Int → Int} {f g : SE} {k : Nat} {ρ : Rho} : sPutOp k F f g ρ = (match getS ρ k with
  | some (.own (.list l)) => (f ρ).bind fun k' => match k' with
    | .int k' => (atI l k').bind fun x => match x with
      | .int x => (g ρ).bind fun y => match y with
        | .int y => (ixN l.length k').map fun j => .nx (ρ.set k (.own (.list (l.set j (.int (F x y))))))
        | _ => none
      | _ => none
    | _ => none
  | _ => none) := by rw [getS_eq]; rfl
/-! ### lists of ints -/
theorem clean_is (l : List Int) : clean 9 (.list (l.map .int)) = true := by
  show cleanA 8 _ = true
  exact cleanA_map (fun a => rfl) l
theorem int_inj {a b : Int} (h : PyData.int a = .int b) : a = b := by cases h; rfl
theorem oEq_is (l k : List Int) : oEq (.list (l.map .int)) (.list (k.map .int)) = some (.bool (decide (l = k))) := by
  rw [oEq_c (clean_is l) (clean_is k), eqv_dec (clean_is l) (clean_is k) (l = k)]
  simp only [PyData.list.injEq]
  exact ⟨fun h => map_inj int_inj h, fun h => by rw [h]⟩
theorem oNe_is (l k : List Int) : oNe (.list (l.map .int)) (.list (k.map .int)) = some (.bool (!decide (l = k))) := by
  rw [oNe_c (clean_is l) (clean_is k), eqv_dec (clean_is l) (clean_is k) (l = k)]
  simp only [PyData.list.injEq]
  exact ⟨fun h => map_inj int_inj h, fun h => by rw [h]⟩
theorem any_int (i : Int) : ∀ l : List Int, ((l.map PyData.int).any fun z => PyData.eqv z (.int i)) = decide (i ∈ l)
  | [] => rfl
  | a :: r => by
    rw [List.map_cons, List.any_cons, any_int i r]
    by_cases h : a = i
    · subst h; simp [PyData.eqv]
    · have h' : ¬ i = a := fun e => h e.symm
      simp [PyData.eqv, h, h', List.mem_cons]
theorem oIn_is (i : Int) (l : List Int) : oIn (.int i) (.list (l.map .int)) = some (.bool (decide (i ∈ l))) := by
  unfold oIn
  simp only []
  rw [if_pos ⟨rfl, clean_shaped (by decide) (clean_is l)⟩, any_int]
theorem oNotIn_is (i : Int) (l : List Int) : oNotIn (.int i) (.list (l.map .int)) = some (.bool (!decide (i ∈ l))) := by
  unfold oNotIn
  simp only []
  rw [if_pos ⟨rfl, clean_shaped (by decide) (clean_is l)⟩, any_int]
/-! ### a function on data that nothing unfolds -/
theorem box_ex {α : Type} (a : α) : ∃ b, b = a := ⟨a, rfl⟩
noncomputable def box {α : Type} (a : α) : α := Classical.choose (box_ex a)
theorem box_eq {α : Type} (a : α) : box a = a := Classical.choose_spec (box_ex a)
theorem box_rt {n : Nat} {rm : Md} {ms : List Md} {b : SS} {ds : List PyData} {d : PyData} (h1 : ds.length = ms.length) (h2 : b (slotsOf ms ds ++ List.replicate (n - ds.length) .un) = some (.rt d)) : box (runF n rm ms b) ds = some d := by
  rw [box_eq]; exact runF_rt h1 h2
theorem fn_okB {P : Program} {w : World} {K : PySem.W.Frag} {mg : Str → Option Value} {base : Heap} {x qual : Str} {st : Stmt} {f : Addr} {fd : FuncData} {N ps : List Str} {k n : Nat} {ms : List Md} {rm : Md} {b : SS} (F : Fun K x qual st f fd) (S : FnScope N ps (defScope st))
    (hm : ms.length = ps.length) (hn : N.length = n) (am : ArgMd ms)
    (body : ∀ (cdv : Value) (A : Around) (outer : List Env) (s : Shared) (H : Hp) (E : XK), Room k (A.deeper (PyProof.Rows.envOfC qual (defScope st) s.heap.objs.size f cdv)) → DB (cxOf CX0 P w K mg base N qual (defScope st) f cdv A outer s H E).nox rm (defBody st) b) :
    FnOk P w K mg base CX0 (k + 1) f fd ps (spD K rm ms (box (runF n rm ms b))) := by
  rw [box_eq]; exact fn_ok F S hm hn am body
end DV

namespace DV
open PySem L2 PySem.Spec PyProof.Rows
/-! ### a loop over an own list: the list is lent to the loop -/
def Fr.lend (F : Fr) (i : Nat) (a : Addr) (vs : List V) : Fr := ⟨F.g, F.b, fun j => if j = i then some (a, vs) else F.pin j, F.sts⟩
section
variable {K : PySem.W.Frag} {F : Fr} {H0 G H G' H' : Hp} {ρ ρ' : Rho} {σ σ' : L2.St} {ds : List PyData} {vs : List V} {i : Nat} {a : Addr}
theorem Sok.lend (s : Sok K F H0 G ρ σ H) (h : ρ[i]? = some (.own (.list ds))) (ha : σ[i]? = some (some (.ref a))) (hn : H0 a = none) (hg : G a = none) (hv : H a = some (.lst vs)) (rl : RepA K G ds vs) :
    Sok K (F.lend i a vs) (upd H0 a (.lst vs)) G (ρ.set i (.pin (.list ds))) σ H := by
  have hi : i < ρ.length := (List.getElem?_eq_some_iff.mp h).1
  have own_of : ∀ {j : Nat} {e : PyData}, (ρ.set i (.pin (.list ds)))[j]? = some (.own e) → ρ[j]? = some (.own e) := fun {j e} q => by
    by_cases z : j = i
    · subst z; rw [List.getElem?_set_self hi] at q; cases q
    · rw [List.getElem?_set_ne (Ne.symm z)] at q; exact q
  refine ⟨⟨s.gx.g, fun b w hw => ?_, s.gx.gh, fun b hb => ?_⟩, by rw [List.length_set]; exact s.len, fun j q hj => ?_, fun j k d1 e b hjk h1 h2 h3 h4 => s.apart j k _ _ b hjk (own_of h1) (own_of h2) h3 h4, fun j d hj => ?_, s.base.trans (Ex.new hn), fun j b us hj => ?_⟩
  · by_cases z : b = a
    · subst z; rw [upd_same] at hw; rw [hv]; exact hw
    · rw [upd_ne z] at hw; exact s.gx.h b w hw
  · by_cases z : b = a
    · subst z; exact absurd hg hb
    · rw [upd_ne z]; exact s.gx.nw b hb
  · by_cases z : j = i
    · subst z
      rw [List.getElem?_set_self hi] at hj
      cases hj
      exact .pin
    · rw [List.getElem?_set_ne (Ne.symm z)] at hj
      have q2 := s.slot j q hj
      generalize e : σ[j]?.getD none = w at q2
      cases q2 with
      | un => exact .un
      | val h => exact .val h
      | bor h => exact .bor h
      | scr h => exact .scr h
      | pin => exact .pin
      | st h => exact .st h
      | own k1 k2 k3 =>
        refine .own ?_ k2 k3
        rw [upd_ne]
        · exact k1
        · rintro rfl
          exact s.apart i j _ _ _ (fun z' => z z'.symm) h hj ha (getD_some e)
  · by_cases z : j = i
    · subst z
      rw [List.getElem?_set_self hi] at hj
      cases hj
      exact ⟨a, vs, ds, if_pos rfl, ha, rfl, rl⟩
    · rw [List.getElem?_set_ne (Ne.symm z)] at hj
      obtain ⟨b, us, es, p1, p2⟩ := s.pins j d hj
      exact ⟨b, us, es, (if_neg z).trans p1, p2⟩
  · by_cases z : j = i
    · subst z
      have : (some (a, vs) : Option (Addr × List V)) = some (b, us) := (if_pos rfl).symm.trans hj
      cases this
      exact upd_same
    · have hj' : F.pin j = some (b, us) := (if_neg z).symm.trans hj
      have hb := s.wf j b us hj'
      rw [upd_ne]
      · exact hb
      · rintro rfl
        rw [hn] at hb; cases hb
theorem Sok.back (s : Sok K F H0 G ρ σ H) (hn : H0 a = none) (hg : G a = none) (rl : RepA K G ds vs) (eg : Ex G G') {d : PyData} (s' : Sok K (F.lend i a vs) (upd H0 a (.lst vs)) G' ρ' σ' H') (h : ρ'[i]? = some (.pin d)) :
    Sok K F H0 G' (ρ'.set i (.own (.list ds))) σ' H' := by
  have hi : i < ρ'.length := (List.getElem?_eq_some_iff.mp h).1
  have hg0 : F.g a = none := s.gx.g.back hg
  have ha : σ'[i]? = some (some (.ref a)) := by
    obtain ⟨b, us, es, p1, p2, _⟩ := s'.pins i d h
    have : (some (a, vs) : Option (Addr × List V)) = some (b, us) := (if_pos rfl).symm.trans p1
    cases this
    exact p2
  have hg' : G' a = none := by
    cases e : G' a with
    | none => rfl
    | some w =>
      rcases s'.gx.nw a (by rw [e]; simp) with z | z
      · exact absurd hg0 z
      · rw [upd_same] at z; exact (show False from z).elim
  have hv : H' a = some (.lst vs) := s'.gx.h a _ upd_same
  refine ⟨⟨s'.gx.g, (Ex.new hn).trans s'.gx.h, s'.gx.gh, fun b hb => ?_⟩, by rw [List.length_set]; exact s'.len, fun j q hj => ?_, fun j k d1 e b hjk h1 h2 h3 h4 => ?_, fun j d' hj => ?_, s.base, s.wf⟩
  · rcases s'.gx.nw b hb with z | z
    · exact .inl z
    · by_cases y : b = a
      · subst y; rw [upd_same] at z; cases z
      · rw [upd_ne y] at z; exact .inr z
  · by_cases z : j = i
    · subst z
      rw [List.getElem?_set_self hi] at hj
      cases hj
      rw [ha]
      exact .own hn hg' (.lst hv (rl.mono eg))
    · rw [List.getElem?_set_ne (Ne.symm z)] at hj
      have q2 := s'.slot j q hj
      generalize e : σ'[j]?.getD none = w at q2
      cases q2 with
      | un => exact .un
      | val h => exact .val h
      | bor h => exact .bor h
      | scr h => exact .scr h
      | pin => exact .pin
      | st h => exact .st h
      | @own d2 c k1 k2 k3 =>
        refine .own ?_ k2 k3
        by_cases y : c = a
        · subst y; rw [upd_same] at k1; cases k1
        · rw [upd_ne y] at k1; exact k1
  · have nota : ∀ {j : Nat} {e : PyData} {b : Addr}, ρ'[j]? = some (.own e) → σ'[j]? = some (some (.ref b)) → b ≠ a := fun {j e b} q q2 => by
      obtain ⟨c, k1, k2, _⟩ := s'.own q
      rw [q2] at k1; cases k1
      rintro rfl
      rw [upd_same] at k2; cases k2
    by_cases z : j = i
    · subst z
      rw [ha] at h3; cases h3
      rw [List.getElem?_set_ne hjk] at h2
      exact nota h2 h4 rfl
    · rw [List.getElem?_set_ne (Ne.symm z)] at h1
      by_cases y : k = i
      · subst y
        rw [ha] at h4; cases h4
        exact nota h1 h3 rfl
      · rw [List.getElem?_set_ne (Ne.symm y)] at h2
        exact s'.apart j k _ _ b hjk h1 h2 h3 h4
  · by_cases z : j = i
    · subst z
      rw [List.getElem?_set_self hi] at hj; cases hj
    · rw [List.getElem?_set_ne (Ne.symm z)] at hj
      obtain ⟨b, us, es, p1, p2⟩ := s'.pins j d' hj
      exact ⟨b, us, es, (if_neg z).symm.trans p1, p2⟩
end
def sForOwn (i : Nat) (g : SG) (b : SS) : SS := fun ρ => match ρ[i]? with
  | some (.own (.list ds)) => (forGo g b ds (ρ.set i (.pin (.list ds)))).bind fun o => match o with
    | .nx ρ' => match ρ'[i]? with
      | some (.pin _) => some (.nx (ρ'.set i (.own (.list ds))))
      | _ => none
    | .rt d => some (.rt d)
    | _ => none
  | _ => none
section
variable {X : Cx} {rm : Md} {tg : Expr} {body : List Stmt} {g : SG} {f : SS} {x : Str} {p1 pos : Pos}
theorem s_forOwn (i : Nat) (hp : PassesOwn (model X.prog X.w) X.A X.env X.xe) (hc : X.calm = true) (hg : DG X tg g) (hb : DB X rm body f) (hrm : rm = .val ∨ rm = .new := by first | exact Or.inl rfl | exact Or.inr rfl)
    (hN : X.N[i]? = some x := by rfl) (hv : Vis X.env.scope x := by first | exact Or.inl rfl | exact Or.inr (Or.inl rfl) | exact Or.inr (Or.inr rfl)) (hd : (x == ("__debug__" : Str)) = false := by decide) (hcd : (x == ("__classdict__" : Str)) = false := by decide)
    (hs : ∀ y, foldedSetIterable (.Name x p1) X.env y = pure y := by intro _; rfl) : DS X rm (.For tg (.Name x p1) body [] pos) (sForOwn i g f) :=
  ⟨(ps_for hp hc (pi_any (pv i hN hv hd hcd)) hg.pg hb.pss hs).imp fun D σ H ⟨G0, H0, G, ρ, o, s, e, q⟩ => by
    unfold sForOwn at e
    split at e
    · rename_i ds h
      obtain ⟨oo, e2, e3⟩ := bind_some e
      obtain ⟨a, ha, hn, hga, ow⟩ := s.own h
      obtain ⟨vs, hv', rl⟩ := own_list ow
      refine ⟨_, ha, .inl ⟨a, rfl, ⟨vs, .inl (.inl hv')⟩, ?_⟩⟩
      have w : WalkD X.K (upd H0 a (.lst vs)) G (Itl X.K a) ds := WalkD.list (fun H2 _ b => .inl (.inl (b a _ upd_same))) rl
      have s1 := s.lend h ha hn hga hv' rl
      let St (i' : Nat) (σi : L2.St) (Hi : Hp) : Prop := ∃ Gi ρi, Ex G Gi ∧ Sok X.K (G0.lend i a vs) (upd H0 a (.lst vs)) Gi ρi σi Hi ∧ i' ≤ ds.length ∧ forGo g f (ds.drop i') ρi = some oo
      -- the end of the loop
      have fin : ∀ ρ' Gi σi Hi, oo = .nx ρ' → Ex G Gi → Sok X.K (G0.lend i a vs) (upd H0 a (.lst vs)) Gi ρ' σi Hi → D.nx σi Hi := fun ρ' Gi σi Hi eo eg si => by
        subst eo
        simp only [] at e3
        split at e3
        · rename_i d hd'
          cases e3
          exact q Gi σi Hi eg (Sok.back s hn hga rl eg si hd')
        · cases e3
      refine ⟨fun i' m σi Hi => m = ds.length - i' ∧ St i' σi Hi, ⟨_, rfl, G, _, Ex.refl _, s1, Nat.zero_le _, e2⟩, ?_⟩
      rintro i' m σi Hi ⟨rfl, Gi, ρi, eg, si, hi, hr⟩
      by_cases hlt : i' < ds.length
      · refine .inr ⟨w.goes i' Gi Hi hlt eg si.gx.gh si.gx.h, St (i' + 1), fun σ' H' p => ⟨_, by omega, rfl, p⟩, fun y H' hy => ?_⟩
        have hd := List.getElem?_eq_getElem hlt
        obtain ⟨G3, gx3, rx⟩ := w.yields i' _ Gi Hi y H' hd eg si.gx.gh si.gx.h hy
        rw [List.drop_eq_getElem_cons hlt] at hr
        obtain ⟨ρ1, e1, hr⟩ := bind_some hr
        obtain ⟨o1, e2', hr⟩ := bind_some hr
        refine ⟨G0.lend i a vs, upd H0 a (.lst vs), G3, ρi, _, ρ1, si.gx' gx3, rx, e1, fun σ2 s2 => ⟨G0.lend i a vs, upd H0 a (.lst vs), G3, ρ1, o1, s2, e2', ?_⟩⟩
        have eg3 := eg.trans gx3.g
        cases o1 with
        | nx ρ' => exact fun G' σ' H' e4 s4 => ⟨G', ρ', eg3.trans e4, s4, hlt, hr⟩
        | ct ρ' => exact fun G' σ' H' e4 s4 => ⟨G', ρ', eg3.trans e4, s4, hlt, hr⟩
        | bk ρ' =>
          exact fun G' σ' H' e4 s4 => fin ρ' G' σ' H' (Option.some.inj hr).symm (eg3.trans e4) s4
        | rt d =>
          cases hr
          cases e3
          exact fun G' H' v gx r => q G' H' v ⟨gx.g, (Ex.new hn).trans gx.h, gx.gh, fun b hb => (gx.nw b hb).imp id fun z => by
            by_cases y : b = a
            · subst y; rw [upd_same] at z; cases z
            · rw [upd_ne y] at z; exact z⟩ (by
              rcases hrm with rfl | rfl
              · exact r
              · exact RM.start (Ex.new hn) r)
      · have ei : i' = ds.length := by omega
        subst ei
        rw [List.drop_length] at hr
        cases hr
        exact .inl ⟨w.stops Gi Hi eg si.gx.gh si.gx.h, fin ρi Gi σi Hi rfl eg si⟩
    · cases e⟩
end
@[simp] theorem sForOwn_r {g : SG} {b : SS} {k : Nat} {ρ : Rho} : sForOwn k g b ρ = (match getS ρ k with
  | some (.own (.list ds)) => (forGo g b ds (ρ.set k (.pin (.list ds)))).bind fun o => match o with
    | .nx ρ' => match getS ρ' k with
      | some (.pin _) => some (.nx (ρ'.set k (.own (.list ds))))
      | _ => none
    | .rt d => some (.rt d)
    | _ => none
  | _ => none) := by
  rw [getS_eq]; unfold sForOwn
  cases ρ[k]? with
  | none => rfl
  | some s => cases s with
    | own d => cases d with
      | list ds =>
        simp only []
        congr 1; funext o
        cases o with
        | nx ρ' => simp only [getS_eq]
        | _ => rfl
      | _ => rfl
    | _ => rfl
theorem sForOwn_eq {g : SG} {b : SS} {k : Nat} {ρ ρ' : Rho} {ds : List PyData} {d : PyData} (h : getS ρ k = some (.own (.list ds))) (e : forGo g b ds (ρ.set k (.pin (.list ds))) = some (.nx ρ')) (h2 : getS ρ' k = some (.pin d)) : sForOwn k g b ρ = some (.nx (ρ'.set k (.own (.list ds)))) := by
  rw [sForOwn_r, h]
  simp only []
  rw [e]
  simp only [Option.bind_some]
  rw [h2]
end DV

namespace DV
open PySem L2 PySem.Spec PyProof.Rows
section
variable {X : Cx} {m : Md} {a b : Expr} {f g : SE} {pos apos : Pos} {name : Str} {id : String}
/-! ### methods of texts with one argument -/
def MtF (K : PySem.W.Frag) (m : Md) (r : V → List V → Hp → VK → Prop) (F : PyData → PyData → Option PyData) : Prop :=
  ∀ (G H : Hp) (d1 d2 d : PyData) (x y : V) (Q : VK), Ex G H → RepB K G H d1 x → RepB K G H d2 y → F d1 d2 = some d → (∀ G' H' v, Gx G H G' H' → (∀ H0, RM K H0 H m G' H' d v) → Q v H') → r x [y] H Q
theorem d_m1 {r : V → List V → Hp → VK → Prop} {F : PyData → PyData → Option PyData} (slot : PySem.Slot "str" name id) (ty : typeOf (.builtin id) = pure (.type "method_descriptor")) (rule : MtR X id r) (hF : MtF X.K m r F) (hS : ∀ d1 d2 d, F d1 d2 = some d → ∃ z, d1 = .str z)
    (ha : DX X .bor a f) (hb : DX X .bor b g) (hs : starEach [b] X.env = [(false, eval b X.env)] := by rfl) (hbase : attributeBase a name X.env (eval a X.env) = eval a X.env := by rfl) (hline : (apos.endLine == pos.line) = true := by rfl) :
    DX X m (.Call (.Attribute a name apos) [b] [] pos) (eOp F f g) :=
  ⟨(pe_m1 slot ty rule ha.pe hb.pe hs hbase hline).imp fun σ H Q ⟨G0, H0, G, ρ, d, s, ed, q⟩ => by
    obtain ⟨d1, e1, ed⟩ := bind_some ed
    obtain ⟨d2, e2, ed⟩ := bind_some ed
    refine ⟨G0, H0, G, ρ, d1, s, e1, fun G1 H1 x gx1 r1 => ?_⟩
    obtain ⟨z, rfl⟩ := hS _ _ _ ed
    refine ⟨⟨z, RepB.str r1⟩, G0, H0, G1, ρ, d2, s.gx' gx1, e2, fun G2 H2 y gx2 r2 => ?_⟩
    exact hF G2 H2 _ d2 d x y Q gx2.gh (RepB.mono gx2.g gx2.h r1) r2 ed fun G' H' v gx3 r3 => q G' H' v ((gx1.trans gx2).trans gx3) ((r3 H0).start (gx1.trans gx2).h)⟩
def oSplit (a b : PyData) : Option PyData := match a, b with
  | .str x, .str y => if (y.length == 0) = false ∧ x.length + 2 ≤ sizeLine then some (.list ((Txt.split x y).map .str)) else none
  | _, _ => none
theorem strs_A {K : PySem.W.Frag} {G : Hp} : ∀ l : List Str, RepA K G (l.map .str) (l.map V.str)
  | [] => .nil
  | x :: l => .cons (.str x) (strs_A l)
theorem mtf_split {K : PySem.W.Frag} : MtF K .new (fun x xs H Q => ∃ a b, x = .str a ∧ xs = [.str b] ∧ (b.length == 0) = false ∧ a.length + 2 ≤ sizeLine ∧ rNewStrs (Txt.split a b) H Q) oSplit := fun G H d1 d2 d x y Q e r1 r2 h q => by
  unfold oSplit at h
  split at h
  · obtain ⟨⟨c1, c2⟩, rfl⟩ := if_some h
    cases r1.str
    cases r2.str
    refine ⟨_, _, rfl, rfl, c1, c2, fun p hp => q G _ _ (Gx.mine e hp) fun H0 => ⟨p, rfl, hp, e.back hp, .lst upd_same (strs_A _)⟩⟩
  · cases h
theorem s_split {d1 d2 d : PyData} (h : oSplit d1 d2 = some d) : ∃ z, d1 = .str z := by
  unfold oSplit at h
  split at h
  · exact ⟨_, rfl⟩
  · cases h
def oCount (a b : PyData) : Option PyData := match a, b with
  | .str x, .str y => some (.int (Txt.count x y))
  | _, _ => none
theorem mtf_count {K : PySem.W.Frag} : MtF K .val (fun x xs H Q => ∃ a b, x = .str a ∧ xs = [.str b] ∧ Q (.int (Txt.count a b)) H) oCount := fun G H d1 d2 d x y Q e r1 r2 h q => by
  unfold oCount at h
  split at h
  · cases h
    cases r1.str
    cases r2.str
    exact ⟨_, _, rfl, rfl, q G H _ (Gx.refl e) fun _ => .int _⟩
  · cases h
theorem s_count {d1 d2 d : PyData} (h : oCount d1 d2 = some d) : ∃ z, d1 = .str z := by
  unfold oCount at h
  split at h
  · exact ⟨_, rfl⟩
  · cases h
theorem d_split (ha : DX X .bor a f) (hb : DX X .bor b g) (hs : starEach [b] X.env = [(false, eval b X.env)] := by rfl) (hbase : attributeBase a "split" X.env (eval a X.env) = eval a X.env := by rfl) (hline : (apos.endLine == pos.line) = true := by rfl) :
    DX X .new (.Call (.Attribute a "split" apos) [b] [] pos) (eOp oSplit f g) := d_m1 F.slot_str_split F.type_str_split mt_split mtf_split (fun _ _ _ => s_split) ha hb hs hbase hline
theorem d_count (ha : DX X .bor a f) (hb : DX X .bor b g) (hs : starEach [b] X.env = [(false, eval b X.env)] := by rfl) (hbase : attributeBase a "count" X.env (eval a X.env) = eval a X.env := by rfl) (hline : (apos.endLine == pos.line) = true := by rfl) :
    DX X .val (.Call (.Attribute a "count" apos) [b] [] pos) (eOp oCount f g) := d_m1 F.slot_str_count F.type_str_count mt_count mtf_count (fun _ _ _ => s_count) ha hb hs hbase hline
end
/-! ### x.extend(new list) -/
section
variable {X : Cx} {rm : Md} {a : Expr} {f : SE} {pos p1 cpos apos : Pos} {x : Str}
theorem s_ext (i : Nat) (ha : DX X .new a f) (hN : X.N[i]? = some x := by rfl) (hv : Vis X.env.scope x := by first | exact Or.inl rfl | exact Or.inr (Or.inl rfl) | exact Or.inr (Or.inr rfl)) (hd : (x == ("__debug__" : Str)) = false := by decide)
    (hcd : (x == ("__classdict__" : Str)) = false := by decide)
    (hbase : attributeBase (.Name x p1) "extend" X.env (eval (.Name x p1) X.env) = eval (.Name x p1) X.env := by rfl)
    (hfew : ((backTo cpos (starEach (a :: []) X.env)).all (fun x => !x.1) && (backToKw cpos (keywordEach [] X.env)).all (fun x => x.1.isSome)
      && decide ((a :: []).length + ([] : List Keyword).length + (if ([] : List Keyword).isEmpty then 0 else 1) < 30)) = true := by rfl)
    (hline : (apos.endLine == cpos.line) = true := by rfl) (hs : starEach (a :: []) X.env = (false, eval a X.env) :: starEach [] X.env := by rfl) (hplain : (backTo cpos (starEach [] X.env)).any (·.1) = false := by rfl)
    (hsw : swapsWith (.Call (.Attribute (.Name x p1) "extend" apos) [a] [] cpos) none pos.line X.env = pure false := by rfl) :
    DS X rm (.Expr (.Call (.Attribute (.Name x p1) "extend" apos) [a] [] cpos) pos) (sMut fExt i (aCons f aNil)) :=
  ⟨(ps_expr (pe_bm PySem.F.plainAttrs_list PySem.F.slot_list_extend PySem.F.type_list_extend mt_extend (pv i hN hv hd hcd) (a_cons ha a_nil hs).pa hbase hfew hline hs hplain) hsw).imp
    fun D σ H ⟨G0, H0, G, ρ, o, s, e, q⟩ => by
    unfold sMut at e
    split at e
    · rename_i l h
      obtain ⟨ds, e1, e⟩ := bind_some e
      obtain ⟨d, e2, e⟩ := bind_some e
      cases e
      obtain ⟨p, h1, h2, h3, h4⟩ := s.own h
      obtain ⟨vs, hv, _⟩ := own_list h4
      refine ⟨_, h1, .inl ⟨rfl, _, SqL.of hv⟩, G0, H0, G, ρ, ds, s, e1, fun G1 H1 us gx ra => ?_⟩
      have s1 := s.gx' gx
      obtain ⟨p', k1, k2, k3, k4⟩ := s1.own h
      rw [h1] at k1; cases k1
      obtain ⟨vs', hv', rl⟩ := own_list k4
      unfold fExt at e2
      split at e2
      · rename_i k
        obtain ⟨hl, rfl⟩ := if_some e2
        cases ra with
        | cons r1 t =>
          cases t
          obtain ⟨b, rfl, hb, gb, ob⟩ := (show ∃ b, _ = V.ref b ∧ H b = none ∧ G1 b = none ∧ Own X.K G1 H1 b (.list k) from r1)
          obtain ⟨zs, hz, rz⟩ := own_list ob
          refine ⟨p, b, vs', zs, rfl, rfl, hv', hz, by rw [← rl.len, ← rz.len]; exact hl, ?_⟩
          exact q G1 σ _ gx.g (s1.write h h1 k2 k3 (.lst upd_same (rl.app rz)))
      · cases e2
    · cases e⟩
end
theorem fExt_eq {l k : List PyData} (h : l.length + k.length ≤ sizeLine) : fExt l [.list k] = some (.list (l ++ k)) := if_pos h
end DV

namespace DV
open PySem L2 PySem.Spec PyProof.Rows
/-! ### methods of texts with more arguments -/
def eBm (F : PyData → List PyData → Option PyData) (f : SE) (r : SA) : SE := fun ρ => (f ρ).bind fun x => (r ρ).bind fun ds => F x ds
@[simp] theorem eBm_r {F : PyData → List PyData → Option PyData} {f : SE} {r : SA} {ρ : Rho} : eBm F f r ρ = (f ρ).bind fun x => (r ρ).bind fun ds => F x ds := rfl
section
variable {X : Cx} {m : Md} {a e : Expr} {es : List Expr} {f : SE} {t : SA} {ms : List Md} {pos apos : Pos} {name : Str} {id : String}
def MtF2 (K : PySem.W.Frag) (m : Md) (ms : List Md) (r : V → List V → Hp → VK → Prop) (F : PyData → List PyData → Option PyData) : Prop :=
  ∀ (G H0 Hs H : Hp) (d1 d : PyData) (ds : List PyData) (x : V) (xs : List V) (Q : VK), Ex G H → RepB K G H d1 x → RMs K H0 Hs G H ms ds xs → F d1 ds = some d → (∀ G' H' v, Gx G H G' H' → (∀ H0, RM K H0 H m G' H' d v) → Q v H') → r x xs H Q
theorem d_ms {r : V → List V → Hp → VK → Prop} {F : PyData → List PyData → Option PyData} (slot : PySem.Slot "str" name id) (ty : typeOf (.builtin id) = pure (.type "method_descriptor")) (rule : MtR X id r) (hF : MtF2 X.K m ms r F) (hS : ∀ d1 d2 d, F d1 d2 = some d → ∃ z, d1 = .str z)
    (ha : DX X .bor a f) (hb : DA X ms (e :: es) t)
    (hbase : attributeBase a name X.env (eval a X.env) = eval a X.env := by rfl)
    (hfew : ((backTo pos (starEach (e :: es) X.env)).all (fun x => !x.1) && (backToKw pos (keywordEach [] X.env)).all (fun x => x.1.isSome)
      && decide ((e :: es).length + ([] : List Keyword).length + (if ([] : List Keyword).isEmpty then 0 else 1) < 30)) = true := by rfl)
    (hline : (apos.endLine == pos.line) = true := by rfl) (hs : starEach (e :: es) X.env = (false, eval e X.env) :: starEach es X.env := by rfl) (hplain : (backTo pos (starEach es X.env)).any (·.1) = false := by rfl) :
    DX X m (.Call (.Attribute a name apos) (e :: es) [] pos) (eBm F f t) :=
  ⟨(pe_bm PySem.F.plainAttrs_str slot ty rule ha.pe hb.pa hbase hfew hline hs hplain).imp fun σ H Q ⟨G0, H0, G, ρ, d, s, ed, q⟩ => by
    obtain ⟨d1, e1, ed⟩ := bind_some ed
    obtain ⟨ds, e2, ed⟩ := bind_some ed
    refine ⟨G0, H0, G, ρ, d1, s, e1, fun G1 H1 x gx1 r1 => ?_⟩
    obtain ⟨z, rfl⟩ := hS _ _ _ ed
    refine ⟨?_, G0, H0, G1, ρ, ds, s.gx' gx1, e2, fun G2 H2 ys gx2 r2 => ?_⟩
    · cases RepB.str r1
      exact (rfl : ("str" : String) = "str")
    · exact hF G2 _ _ H2 _ d ds x ys Q gx2.gh (RepB.mono gx2.g gx2.h r1) r2 ed fun G' H' v gx3 r3 => q G' H' v ((gx1.trans gx2).trans gx3) ((r3 H0).start (gx1.trans gx2).h)⟩
def oFind3 (a : PyData) (ds : List PyData) : Option PyData := match a, ds with
  | .str x, [.str y, .int i] => some (.int (Txt.find3 x y i))
  | _, _ => none
theorem mtf_find3 {K : PySem.W.Frag} : MtF2 K .val [.bor, .val] (fun x xs H Q => ∃ (a b : Str) (i : Int), x = .str a ∧ xs = [.str b, .int i] ∧ Q (.int (Txt.find3 a b i)) H) oFind3 := fun G H0 Hs H d1 d ds x xs Q e r1 r2 h q => by
  unfold oFind3 at h
  split at h
  · cases h
    cases r1.str
    cases r2 with
    | cons h1 t =>
      cases t with
      | cons h2 t =>
        cases t
        cases (RepB.str h1)
        cases (show Rep K G (.int _) _ from h2)
        exact ⟨_, _, _, rfl, rfl, q G H _ (Gx.refl e) fun _ => .int _⟩
  · cases h
theorem s_find3 {d1 : PyData} {d2 : List PyData} {d : PyData} (h : oFind3 d1 d2 = some d) : ∃ z, d1 = .str z := by
  unfold oFind3 at h
  split at h
  · exact ⟨_, rfl⟩
  · cases h
end
end DV

namespace DV
open PySem L2 PySem.Spec PyProof.Rows
/-! ### calls with keywords -/
theorem RMs.app {K : PySem.W.Frag} {H0 Hs G H : Hp} : ∀ {m1 m2 : List Md} {d1 d2 : List PyData} {v1 v2 : List V}, RMs K H0 Hs G H m1 d1 v1 → RMs K H0 Hs G H m2 d2 v2 → RMs K H0 Hs G H (m1 ++ m2) (d1 ++ d2) (v1 ++ v2)
  | _, _, _, _, _, _, .nil, t => t
  | _, _, _, _, _, _, .cons h r, t => .cons h (RMs.app r t)
structure DK (X : Cx) (ms : List Md) (kws : List Keyword) (f : SA) : Prop where
  pk : PK X kws (tA X.K ms f)
section
variable {X : Cx} {m : Md} {ms ms1 ms2 ms3 : List Md} {e : Expr} {es : List Expr} {kws : List Keyword} {f : SE} {r r2 : SA} {nm : Option Str} {kpos pos p : Pos} {x : Str} {k n : Nat} {ps ks : List Str} {rm : Md} {Fn : List PyData → Option PyData} {dv : List V} {dd : List PyData}
theorem k_nil : DK X [] [] aNil := ⟨⟨fun pos pins s σ H Q I h => pk_nil.run pos pins s σ H Q I (by
  obtain ⟨G0, H0, G, ρ, ds, s, e, q⟩ := h
  cases e
  exact q G H [] (Gx.refl s.gx.gh) .nil)⟩⟩
theorem k_cons (ha : DX X m e f) (hr : DK X ms kws r) : DK X (m :: ms) (⟨nm, e, kpos⟩ :: kws) (aCons f r) := ⟨⟨fun pos pins s σ H Q I h => (pk_cons ha.pe hr.pk).run pos pins s σ H Q I (by
  obtain ⟨G0, H0, G, ρ, ds, s, ed, q⟩ := h
  obtain ⟨d, e1, ed⟩ := bind_some ed
  obtain ⟨ds', e2, ed⟩ := bind_some ed
  cases ed
  refine ⟨G0, H0, G, ρ, d, s, e1, fun G1 H1 v gx1 r1 => ⟨G0, H0, G1, ρ, ds', s.gx' gx1, e2, fun G2 H2 vs gx2 r2 => q G2 H2 (v :: vs) (gx1.trans gx2) (.cons (r1.mono gx2) (r2.start gx1.h))⟩⟩)⟩⟩
/-- a def that is called with keywords: n values by place, keywords ks behind them, then the defaults dv -/
def FnKw (P : Program) (w : World) (K : PySem.W.Frag) (mg : Str → Option Value) (base : Heap) (x : Str) (ps : List Str) (k : Nat) (rm : Md) (ms : List Md) (F : List PyData → Option PyData) (n : Nat) (ks : List Str) (dv : List V) : Prop :=
  ∃ (f : Addr) (fd : FuncData) (g : List Value → List Value → List Value), FnOk P w K mg base CX0 k f fd ps (spD K rm ms F) ∧ mg x = some (.ref f) ∧ PySem.W.keepIn K (.ref f) = true ∧ KBn K fd ps n ks g (fun vs zs => vs ++ (zs ++ dv))
def eCallK (F : List PyData → Option PyData) (r r2 : SA) (dd : List PyData) : SE := fun ρ => (r ρ).bind fun a => (r2 ρ).bind fun b => F (a ++ (b ++ dd))
@[simp] theorem eCallK_r {F : List PyData → Option PyData} {ρ : Rho} : eCallK F r r2 dd ρ = (r ρ).bind fun a => (r2 ρ).bind fun b => F (a ++ (b ++ dd)) := rfl
theorem d_fnK (F : FnKw X.prog X.w X.K X.mg X.base x ps k rm (ms1 ++ (ms2 ++ ms3)) Fn n ks dv) (hr : Room k X.A) (ha : DA X ms1 (e :: es) r) (hkw : DK X ms2 kws r2) (hd : ∀ (H0 Hs G H : Hp), RMs X.K H0 Hs G H ms3 dd dv) (am : ArgMd (ms1 ++ (ms2 ++ ms3))) (hn : ms1.length = n) (hk2 : ms2.length = ks.length)
    (hrm : rm = .val ∨ rm = .new := by first | exact Or.inl rfl | exact Or.inr rfl) (hg : Gl X x := by rfl) (hall : (backToKw pos (keywordEach kws X.env)).all (·.1.isSome) = true := by rfl) (hks : (backToKw pos (keywordEach kws X.env)).filterMap (·.1) = ks := by rfl)
    (hdb : (x == ("__debug__" : Str)) = false := by decide) (he : starEach (e :: es) X.env = (false, eval e X.env) :: starEach es X.env := by rfl)
    (hpl : ((backTo pos (starEach (e :: es) X.env)).any (·.1) || (backToKw pos (keywordEach kws X.env)).any (·.1.isNone)) = false := by rfl) :
    DX X rm (.Call (.Name x p) (e :: es) kws pos) (eCallK Fn r r2 dd) := by
  obtain ⟨f, fd, g, F, hm, hk, hb⟩ := F
  refine ⟨(pe_callN F hr hg hm hk hb pass0 ha.pa hkw.pk hall hks hdb he hpl).imp fun σ H Q ⟨G0, H0, G, ρ, d, s, ed, q⟩ => ?_⟩
  obtain ⟨d1, e1, ed⟩ := bind_some ed
  obtain ⟨d2, e2, ed⟩ := bind_some ed
  refine ⟨G0, H0, G, ρ, d1, s, e1, fun G1 H1 vs gx1 r1 => ⟨G0, H0, G1, ρ, d2, s.gx' gx1, e2, fun G2 H2 zs gx2 r2 => ⟨r1.len.2.trans hn, r2.len.2.trans hk2, ?_⟩⟩⟩
  have ra := ((r1.mono gx2).start (Ex.refl _)).app ((r2.start gx1.h).app (hd H0 H G2 H2))
  refine ⟨ra.len.2, G2, _, d, gx2.gh, ra.call am, ed, fun G3 H3 v gx3 r3 => q G3 H3 v ((gx1.trans gx2).trans gx3) ?_⟩
  rcases hrm with rfl | rfl
  · exact r3
  · exact RM.start (gx1.trans gx2).h r3
end
/-! ### a list that is given away: return f(.., xs, ..) -/
def slotsM : List Md → List PyData → Rho
  | .new :: ms, d :: ds => .own d :: slotsM ms ds
  | _ :: ms, d :: ds => .val d :: slotsM ms ds
  | _, _ => []
def runM (n : Nat) (rm : Md) (ms : List Md) (f : SS) : List PyData → Option PyData := fun ds =>
  if ds.length = ms.length then (f (slotsM ms ds ++ List.replicate (n - ds.length) .un)).bind fun o => match o, rm with
    | .rt d, _ => some d
    | .nx _, .val => some .none
    | _, _ => none
  else none
def spM (K : PySem.W.Frag) (rm : Md) (ms : List Md) (F : List PyData → Option PyData) : Sp := fun vs H Q _ =>
  vs.length = ms.length ∧ ∃ G H0 ds d, Gx G H0 G H ∧ RMs K H0 H0 G H ms ds vs ∧ F ds = some d ∧ ∀ G' H' v, Gx G H0 G' H' → RM K H0 H0 rm G' H' d v → Q v H'
def ArgMv (ms : List Md) : Prop := ∀ m ∈ ms, m = .val ∨ m = .new
def oneNew : List Md → Bool
  | [] => true
  | .new :: ms => ms.all (· != Md.new)
  | _ :: ms => oneNew ms
theorem slotsM_ok {K : PySem.W.Frag} {B H0 G H : Hp} : ∀ {ms : List Md} {ds : List PyData} {vs : List V}, ArgMv ms → RMs K H0 H0 G H ms ds vs → (slotsM ms ds).length = vs.length ∧
    (∀ (i : Nat) (s : Slot), (slotsM ms ds)[i]? = some s → SlotOk K (fun _ _ => False) B H0 G H s ((vs.map some)[i]?.getD none) ∧ (∀ d, s ≠ .pin d) ∧ ((∃ d, s = .own d) → ms[i]? = some Md.new))
  | _, _, _, _, .nil => ⟨rfl, fun i s h => by simp [slotsM] at h⟩
  | m :: ms, d :: ds, v :: vs, am, .cons h t => by
    obtain ⟨l, q⟩ := slotsM_ok (B := B) (fun m hm => am m (List.mem_cons_of_mem _ hm)) t
    rcases am m List.mem_cons_self with rfl | rfl
    · refine ⟨congrArg (· + 1) l, fun i s hs => ?_⟩
      cases i with
      | zero =>
        cases hs
        exact ⟨.val h, (fun d e => by cases e), fun ⟨d, e⟩ => by cases e⟩
      | succ i => exact q i s hs
    · refine ⟨congrArg (· + 1) l, fun i s hs => ?_⟩
      cases i with
      | zero =>
        cases hs
        obtain ⟨p, rfl, h1, h2, h3⟩ := h
        exact ⟨.own h1 h2 h3, (fun d e => by cases e), fun _ => rfl⟩
      | succ i => exact q i s hs
theorem oneNew_at : ∀ {ms : List Md}, oneNew ms = true → ∀ i j : Nat, ms[i]? = some Md.new → ms[j]? = some Md.new → i = j
  | [], _, i, j, h, _ => by simp at h
  | m :: ms, ho, i, j, hi, hj => by
    have no : (ms.all (· != Md.new)) = true → ∀ k, ms[k]? ≠ some Md.new := fun h k hk => by
      have := (List.all_eq_true.mp h) _ (List.mem_of_getElem? hk)
      simp at this
    have key : m = Md.new ∨ m ≠ Md.new := by by_cases h : m = Md.new <;> simp [h]
    rcases key with rfl | hm
    · have ho : (ms.all (· != Md.new)) = true := ho
      cases i with
      | zero => cases j with
        | zero => rfl
        | succ j => exact absurd (by simpa using hj) (no ho j)
      | succ i => exact absurd (by simpa using hi) (no ho i)
    · have ho : oneNew ms = true := by cases m <;> first | exact ho | exact absurd rfl hm
      cases i with
      | zero => exact absurd (by simpa using hi) hm
      | succ i => cases j with
        | zero => exact absurd (by simpa using hj) hm
        | succ j => exact congrArg (· + 1) (oneNew_at ho i j (by simpa using hi) (by simpa using hj))
theorem fn_okM0 {P : Program} {w : World} {K : PySem.W.Frag} {mg : Str → Option Value} {base : Heap} {x qual : Str} {st : Stmt} {f : Addr} {fd : FuncData} {N ps : List Str} {k n : Nat} {ms : List Md} {rm : Md} {b : SS} (F : Fun K x qual st f fd) (S : FnScope N ps (defScope st))
    (hm : ms.length = ps.length) (hn : N.length = n) (am : ArgMv ms) (one : oneNew ms = true)
    (body : ∀ (cdv : Value) (A : Around) (outer : List Env) (s : Shared) (H : Hp) (E : XK), Room k (A.deeper (PyProof.Rows.envOfC qual (defScope st) s.heap.objs.size f cdv)) → DB (cxOf CX0 P w K mg base N qual (defScope st) f cdv A outer s H E).nox rm (defBody st) b) :
    FnOk P w K mg base CX0 (k + 1) f fd ps (spM K rm ms (runM n rm ms b)) := by
  subst hn
  refine F.ok S (fun vs H Q E h => h.1.trans hm) fun cdv A outer s H vs Q E hr h => ?_
  obtain ⟨hl, G, H0, ds, d, gx, ra, hF, q⟩ := h
  refine ⟨_, (body cdv A outer s H E hr).pss, ?_⟩
  obtain ⟨l1, so⟩ := slotsM_ok (B := H0) am ra
  have hpl : ps.length ≤ N.length := by have := congrArg List.length S.pre; rw [List.length_take] at this; omega
  obtain ⟨hl2, hF⟩ := ite_some hF
  obtain ⟨o, e1, e2⟩ := bind_some hF
  have dv : ds.length = vs.length := hl2.trans hl.symm
  have noOwn : ∀ (i : Nat) (s : Slot), (slotsM ms ds ++ List.replicate (N.length - ds.length) .un)[i]? = some s → (∃ d, s = .own d) → ms[i]? = some Md.new := fun i s hs ho => by
    by_cases hi : i < vs.length
    · rw [List.getElem?_append_left (by rw [l1]; exact hi)] at hs
      exact (so i s hs).2.2 ho
    · rw [List.getElem?_append_right (by rw [l1]; omega), List.getElem?_replicate] at hs
      obtain ⟨d, rfl⟩ := ho
      split at hs <;> cases hs
  refine ⟨⟨G, H0, fun _ => none, fun _ _ => False⟩, H0, G, _, o, ⟨gx, ?_, fun i t ht => ?_, fun i j d1 d2 a hij h1 h2 => ?_, fun i d h1 => ?_, Ex.refl _, fun i a vs h => (by cases h)⟩, e1, ?_⟩
  · unfold L2.start
    rw [List.length_append, List.length_append, List.length_map, List.length_replicate, List.length_replicate, l1, dv]
  · unfold L2.start
    by_cases hi : i < vs.length
    · rw [List.getElem?_append_left (by rw [l1]; exact hi)] at ht
      rw [List.getElem?_append_left (by simpa using hi)]
      exact (so i t ht).1
    · rw [List.getElem?_append_right (by rw [l1]; omega), List.getElem?_replicate] at ht
      split at ht
      · cases ht; exact .un
      · cases ht
  · exact absurd (oneNew_at one i j (noOwn i _ h1 ⟨_, rfl⟩) (noOwn j _ h2 ⟨_, rfl⟩)) hij
  · exfalso
    by_cases hi : i < vs.length
    · rw [List.getElem?_append_left (by rw [l1]; exact hi)] at h1
      exact (so i _ h1).2.1 _ rfl
    · rw [List.getElem?_append_right (by rw [l1]; omega), List.getElem?_replicate] at h1
      split at h1 <;> cases h1
  · cases o with
    | rt d' =>
      have e3 : d' = d := by cases rm <;> exact Option.some.inj e2
      subst e3
      exact fun G' H' v gx r => q G' H' v gx r
    | nx ρ' =>
      cases rm with
      | val =>
        have e3 : PyData.none = d := Option.some.inj e2
        subst e3
        exact fun G' σ' H' _ s' => q G' H' .non s'.gx .non
      | _ => cases e2
    | bk _ => cases rm <;> cases e2
    | ct _ => cases rm <;> cases e2
theorem fn_okM {P : Program} {w : World} {K : PySem.W.Frag} {mg : Str → Option Value} {base : Heap} {x qual : Str} {st : Stmt} {f : Addr} {fd : FuncData} {N ps : List Str} {k n : Nat} {ms : List Md} {rm : Md} {b : SS} (F : Fun K x qual st f fd) (S : FnScope N ps (defScope st))
    (hm : ms.length = ps.length) (hn : N.length = n) (am : ArgMv ms) (one : oneNew ms = true)
    (body : ∀ (cdv : Value) (A : Around) (outer : List Env) (s : Shared) (H : Hp) (E : XK), Room k (A.deeper (PyProof.Rows.envOfC qual (defScope st) s.heap.objs.size f cdv)) → DB (cxOf CX0 P w K mg base N qual (defScope st) f cdv A outer s H E).nox rm (defBody st) b) :
    FnOk P w K mg base CX0 (k + 1) f fd ps (spM K rm ms (box (runM n rm ms b))) := by
  rw [box_eq]; exact fn_okM0 F S hm hn am one body
theorem runM_rt {n : Nat} {rm : Md} {ms : List Md} {ds : List PyData} {f : SS} {d : PyData} (hl : ds.length = ms.length) (h : f (slotsM ms ds ++ List.replicate (n - ds.length) .un) = some (.rt d)) : runM n rm ms f ds = some d := by
  unfold runM
  rw [if_pos hl, h]
  cases rm <;> rfl
theorem boxM_rt {n : Nat} {rm : Md} {ms : List Md} {b : SS} {ds : List PyData} {d : PyData} (h1 : ds.length = ms.length) (h2 : b (slotsM ms ds ++ List.replicate (n - ds.length) .un) = some (.rt d)) : box (runM n rm ms b) ds = some d := by
  rw [box_eq]; exact runM_rt h1 h2
theorem mv_nil : ArgMv [] := fun m hm => absurd hm List.not_mem_nil
theorem mv_val {ms : List Md} (h : ArgMv ms) : ArgMv (.val :: ms) := fun m hm => (List.mem_cons.mp hm).elim (fun e => .inl e) (h m)
theorem mv_new {ms : List Md} (h : ArgMv ms) : ArgMv (.new :: ms) := fun m hm => (List.mem_cons.mp hm).elim (fun e => .inr e) (h m)
/-- arguments, own lists among them -/
def tAm (K : PySem.W.Frag) (ms : List Md) (f : SA) : TA := fun σ H Q => ∃ G0 H0 G ρ ds, Sok K G0 H0 G ρ σ H ∧ f ρ = some ds ∧ ∀ G' H' vs, Gx G H G' H' → RMs K H0 H0 G' H' ms ds vs → Q vs H'
structure DAm (X : Cx) (ms : List Md) (es : List Expr) (f : SA) : Prop where
  pa : PA X es (tAm X.K ms f)
def eM (i : Nat) : SE := fun ρ => match ρ[i]? with
  | some (.own d) => some d
  | _ => none
@[simp] theorem eM_0 {d : PyData} {ρ : Rho} : eM 0 (.own d :: ρ) = some d := rfl
@[simp] theorem eM_s {s : Slot} {ρ : Rho} {k : Nat} : eM (k + 1) (s :: ρ) = eM k ρ := rfl
section
variable {X : Cx} {rm m : Md} {ms : List Md} {e : Expr} {es : List Expr} {f : SE} {r : SA} {pos p : Pos} {x y : Str} {k : Nat} {ps : List Str} {Fn : List PyData → Option PyData}
theorem am0 : DAm X [] [] aNil := ⟨(a_nil (X := X)).pa.imp fun σ H Q ⟨G0, H0, G, ρ, ds, s, e, q⟩ => ⟨G0, H0, G, ρ, ds, s, e, fun G' H' vs gx ra => q G' H' vs gx (ra.start (s.gx.h))⟩⟩
theorem am_c (h : DX X m e f) (hr : DAm X ms es r) (hs : starEach (e :: es) X.env = (false, eval e X.env) :: starEach es X.env := by rfl) : DAm X (m :: ms) (e :: es) (aCons f r) :=
  ⟨(pa_cons h.pe hr.pa hs).imp fun σ H Q ⟨G0, H0, G, ρ, ds, s, ed, q⟩ => by
    obtain ⟨d, e1, ed⟩ := bind_some ed
    obtain ⟨ds', e2, ed⟩ := bind_some ed
    cases ed
    exact ⟨G0, H0, G, ρ, d, s, e1, fun G1 H1 v gx1 r1 => ⟨G0, H0, G1, ρ, ds', s.gx' gx1, e2, fun G2 H2 vs gx2 r2 => q G2 H2 (v :: vs) (gx1.trans gx2) (.cons ((r1.start s.gx.h).mono gx2) r2)⟩⟩⟩
theorem am_m (i : Nat) {pos' : Pos} (hr : DAm X ms es r) (hN : X.N[i]? = some y := by rfl) (hv : Vis X.env.scope y := by first | exact Or.inl rfl | exact Or.inr (Or.inl rfl) | exact Or.inr (Or.inr rfl)) (hd : (y == ("__debug__" : Str)) = false := by decide)
    (hcd : (y == ("__classdict__" : Str)) = false := by decide) (hs : starEach (.Name y pos' :: es) X.env = (false, eval (.Name y pos') X.env) :: starEach es X.env := by rfl) : DAm X (.new :: ms) (.Name y pos' :: es) (aCons (eM i) r) :=
  ⟨(pa_cons (pe_var hN hv hd hcd) hr.pa hs).imp fun σ H Q ⟨G0, H0, G, ρ, ds, s, ed, q⟩ => by
    obtain ⟨d, e1, ed⟩ := bind_some ed
    obtain ⟨ds', e2, ed⟩ := bind_some ed
    cases ed
    unfold eM at e1
    split at e1
    · cases e1
      rename_i h
      obtain ⟨a, h1, h2, h3, h4⟩ := s.own h
      refine ⟨_, h1, G0, H0, G, ρ, ds', s, e2, fun G2 H2 vs gx2 r2 => q G2 H2 _ gx2 (.cons ?_ r2)⟩
      exact RM.mono gx2 (show RM X.K H0 H0 .new G H d (.ref a) from ⟨a, rfl, h2, h3, h4⟩)
    · cases e1⟩
def Fn1M (P : Program) (w : World) (K : PySem.W.Frag) (mg : Str → Option Value) (base : Heap) (x : Str) (ps : List Str) (k : Nat) (rm : Md) (ms : List Md) (F : List PyData → Option PyData) : Prop :=
  ∃ (f : Addr) (fd : FuncData), FnOk P w K mg base CX0 k f fd ps (spM K rm ms F) ∧ mg x = some (.ref f) ∧ PySem.W.keepIn K (.ref f) = true ∧ Binds K fd ps []
def sRetMov (F : List PyData → Option PyData) (r : SA) : SS := fun ρ => (r ρ).bind fun ds => (F ds).bind fun d => some (.rt d)
@[simp] theorem sRetMov_r {F : List PyData → Option PyData} {ρ : Rho} : sRetMov F r ρ = (r ρ).bind fun ds => (F ds).bind fun d => some (.rt d) := rfl
theorem s_retMov {pos2 : Pos} (F : Fn1M X.prog X.w X.K X.mg X.base x ps k rm ms Fn) (hr : Room k X.A) (ha : DAm X ms (e :: es) r) (hg : Gl X x := by rfl) (hdb : (x == ("__debug__" : Str)) = false := by decide) (he : starEach (e :: es) X.env = (false, eval e X.env) :: starEach es X.env := by rfl) (hpl : (backTo pos (starEach es X.env)).any (·.1) = false := by rfl) :
    DS X rm (.Return (some (.Call (.Name x p) (e :: es) [] pos)) pos2) (sRetMov Fn r) := by
  obtain ⟨f, fd, F, hm, hk, hb⟩ := F
  refine ⟨(ps_ret (pe_call F hr hg hm hk hb .nil pass0 ha.pa hdb he hpl)).imp fun D σ H ⟨G0, H0, G, ρ, o, s, ed, q⟩ => ?_⟩
  obtain ⟨ds, e1, ed⟩ := bind_some ed
  obtain ⟨d, e2, ed⟩ := bind_some ed
  cases ed
  refine ⟨G0, H0, G, ρ, ds, s, e1, fun G1 H1 vs gx1 ra => ?_⟩
  show spM X.K rm ms Fn (vs ++ []) H1 _ E0
  rw [List.append_nil]
  have s1 := s.gx' gx1
  exact ⟨ra.len.2, G1, H0, ds, d, ⟨Ex.refl _, s1.gx.h, s1.gx.gh, fun _ h => .inl h⟩, ra, e2, fun G2 H2 v gx2 r2 => q G2 H2 v ⟨s1.gx.g.trans gx2.g, gx2.h, gx2.gh, fun a ha => (gx2.nw a ha).elim (s1.gx.nw a) .inr⟩ r2⟩
end
end DV

namespace DV
open PySem L2 PySem.Spec PyProof.Rows
/-! ### dicts: keys ints and texts, or tuples of these (those begin with a mark) -/
def unK : PyData → Option Key
  | .int i => some (.inl i)
  | .str x => some (.inr x)
  | _ => none
theorem unK_key : ∀ k : Key, unK (keyD k) = some k
  | .inl _ => rfl
  | .inr _ => rfl
theorem unK_inv : ∀ {d : PyData} {k : Key}, unK d = some k → d = keyD k
  | .int i, k, h => by cases h; rfl
  | .str x, k, h => by cases h; rfl
def unKs : List PyData → Option (List Key)
  | [] => some []
  | d :: r => match unK d, unKs r with
    | some k, some ks => some (k :: ks)
    | _, _ => none
theorem unKs_keys : ∀ ks : List Key, unKs (ks.map keyD) = some ks
  | [] => rfl
  | k :: ks => by
    rw [List.map_cons, unKs, unK_key, unKs_keys ks]
theorem unKs_inv : ∀ {l : List PyData} {ks : List Key}, unKs l = some ks → l = ks.map keyD
  | [], ks, h => by cases h; rfl
  | d :: r, ks, h => by
    unfold unKs at h
    split at h
    · rename_i k ks' h1 h2
      cases h
      rw [List.map_cons, unK_inv h1, unKs_inv h2]
    · cases h
def unT : PyData → Option (List Key)
  | .tuple l => unKs l
  | _ => none
theorem unT_key (ks : List Key) : unT (keysD ks) = some ks := unKs_keys ks
theorem unT_inv : ∀ {d : PyData} {k : List Key}, unT d = some k → d = keysD k
  | .tuple l, k, h => by
    have h : unKs l = some k := h
    rw [unKs_inv h]; rfl
section
variable {κ : Type} [DecidableEq κ] (un : PyData → Option κ)
def valD : List (PyData × PyData) → κ → Option PyData
  | [], _ => none
  | p :: r, k => if un p.1 = some k then some p.2 else valD r k
def hasD : List (PyData × PyData) → κ → Bool
  | [], _ => false
  | p :: r, k => if un p.1 = some k then true else hasD r k
def repD : List (PyData × PyData) → κ → PyData → List (PyData × PyData)
  | [], _, _ => []
  | p :: r, k, v => (if un p.1 = some k then (p.1, v) else p) :: repD r k v
def putD (es : List (PyData × PyData)) (kd : PyData) (k : κ) (v : PyData) : List (PyData × PyData) := if hasD un es k = true then repD un es k v else es ++ [(kd, v)]
variable {kd : κ → PyData} {K : PySem.W.Frag} {G : Hp}
theorem valD_V (hun : ∀ k, un (kd k) = some k) : ∀ {es : List (PyData × PyData)} {ks : List (κ × V)}, es.map (·.1) = ks.map (fun p => kd p.1) → RepA K G (es.map (·.2)) (ks.map (·.2)) → ∀ k, (valD un es k = none ∧ valV ks k = none) ∨ ∃ d v, valD un es k = some d ∧ valV ks k = some v ∧ Rep K G d v
  | [], [], _, _, k => .inl ⟨rfl, rfl⟩
  | [], _ :: _, h, _, _ => by simp at h
  | _ :: _, [], h, _, _ => by simp at h
  | p :: es, q :: ks, h, r, k => by
    rw [List.map_cons, List.map_cons] at h
    injection h with h1 h2
    rw [List.map_cons, List.map_cons] at r
    cases r with
    | cons r1 r2 =>
      unfold valD
      rw [h1, hun]
      by_cases c : q.1 = k
      · rw [if_pos (by rw [c]), valV_pos c]
        exact .inr ⟨_, _, rfl, rfl, r1⟩
      · rw [if_neg (fun z => c (Option.some.inj z)), valV_neg c]
        exact valD_V hun h2 r2 k
theorem hasD_V (hun : ∀ k, un (kd k) = some k) : ∀ {es : List (PyData × PyData)} {ks : List (κ × V)}, es.map (·.1) = ks.map (fun p => kd p.1) → ∀ k, hasD un es k = ks.any fun p => decide (p.1 = k)
  | [], [], _, k => rfl
  | [], _ :: _, h, _ => by simp at h
  | _ :: _, [], h, _ => by simp at h
  | p :: es, q :: ks, h, k => by
    rw [List.map_cons, List.map_cons] at h
    injection h with h1 h2
    unfold hasD
    rw [h1, hun, List.any_cons]
    by_cases c : q.1 = k
    · rw [if_pos (by rw [c]), decide_eq_true c]; rfl
    · rw [if_neg (fun z => c (Option.some.inj z)), decide_eq_false c, Bool.false_or, hasD_V hun h2 k]
theorem repD_V (hun : ∀ k, un (kd k) = some k) {k : κ} {d : PyData} {v : V} (rv : Rep K G d v) : ∀ {es : List (PyData × PyData)} {ks : List (κ × V)}, es.map (·.1) = ks.map (fun p => kd p.1) → RepA K G (es.map (·.2)) (ks.map (·.2)) →
    (repD un es k d).map (·.1) = (ks.map fun kv => if kv.1 = k then (kv.1, v) else kv).map (fun p => kd p.1) ∧ RepA K G ((repD un es k d).map (·.2)) ((ks.map fun kv => if kv.1 = k then (kv.1, v) else kv).map (·.2))
  | [], [], _, _ => ⟨rfl, .nil⟩
  | [], _ :: _, h, _ => by simp at h
  | _ :: _, [], h, _ => by simp at h
  | p :: es, q :: ks, h, r => by
    rw [List.map_cons, List.map_cons] at h
    injection h with h1 h2
    rw [List.map_cons, List.map_cons] at r
    cases r with
    | cons r1 r2 =>
      obtain ⟨i1, i2⟩ := repD_V hun rv h2 r2
      unfold repD
      rw [List.map_cons, List.map_cons, List.map_cons, List.map_cons, List.map_cons]
      by_cases c : q.1 = k
      · rw [if_pos (by rw [h1, hun, c]), if_pos c]
        exact ⟨by rw [i1, h1], .cons rv i2⟩
      · rw [if_neg (fun z => c (by rw [h1, hun] at z; exact Option.some.inj z)), if_neg c]
        exact ⟨by rw [i1, h1], .cons r1 i2⟩
theorem putD_V (hun : ∀ k, un (kd k) = some k) {k : κ} {d : PyData} {v : V} (rv : Rep K G d v) {es : List (PyData × PyData)} {ks : List (κ × V)} (h : es.map (·.1) = ks.map (fun p => kd p.1)) (r : RepA K G (es.map (·.2)) (ks.map (·.2))) :
    (putD un es (kd k) k d).map (·.1) = (putK ks k v).map (fun p => kd p.1) ∧ RepA K G ((putD un es (kd k) k d).map (·.2)) ((putK ks k v).map (·.2)) := by
  unfold putD putK
  rw [hasD_V un hun h k]
  split
  · exact repD_V un hun rv h r
  · rw [List.map_append, List.map_append, List.map_append, List.map_append]
    exact ⟨by rw [h]; rfl, r.app (.cons rv .nil)⟩
end
/-- what stands in a dict at a key -/
def dGet : PyData → PyData → Option (Option PyData)
  | .dict ((.none, .none) :: es), k => (unT k).map (valD unT es)
  | .dict es, k => (unK k).map (valD unK es)
  | _, _ => none
def dPut : PyData → PyData → PyData → Option PyData
  | .dict ((.none, .none) :: es), k, v => (unT k).bind fun kk => if es.length < sizeLine then some (.dict ((.none, .none) :: putD unT es k kk v)) else none
  | .dict es, k, v => (unK k).bind fun kk => if es.length < sizeLine then some (.dict (putD unK es k kk v)) else none
  | _, _, _ => none
theorem keys_rep {K : PySem.W.Frag} {G : Hp} : ∀ {ks : List Key} {vs : List V}, RepA K G (ks.map keyD) vs → vs = ks.map kV
  | [], _, .nil => rfl
  | .inl i :: ks, _, .cons h t => by
    cases h
    rw [keys_rep t]; rfl
  | .inr i :: ks, _, .cons h t => by
    cases h
    rw [keys_rep t]; rfl
theorem key_rep {K : PySem.W.Frag} {G H : Hp} {k : PyData} {kk : Key} {y : V} (h : unK k = some kk) (r : RepB K G H k y) : y = kV kk := by
  rw [unK_inv h] at r
  cases kk with
  | inl i => exact r.int
  | inr x => exact r.str
theorem tkey_rep {K : PySem.W.Frag} {G H : Hp} {k : PyData} {kk : List Key} {y : V} (e : Ex G H) (h : unT k = some kk) (r : RepB K G H k y) : ∃ b, y = .ref b ∧ H b = some (.tup (kk.map kV)) := by
  rw [unT_inv h] at r
  cases r with
  | val r =>
    cases r with
    | tup h1 ra => exact ⟨_, rfl, by rw [e _ _ h1, keys_rep ra]⟩
theorem noneK {es : List (PyData × PyData)} {ks : List (Key × V)} (h : ((PyData.none, PyData.none) :: es).map (·.1) = ks.map (fun p => keyD p.1)) : False := by
  cases ks with
  | nil => simp at h
  | cons q ks =>
    rw [List.map_cons, List.map_cons] at h
    injection h with h1 h2
    obtain ⟨a, b⟩ := q
    cases a <;> cases h1
/-- a dict's data, by its keys -/
inductive DForm : PyData → Type where
  | t (es : List (PyData × PyData)) : DForm (.dict ((.none, .none) :: es))
theorem dict_ok {K : PySem.W.Frag} {G H : Hp} {d k : PyData} {x y : V} {o : Option PyData} (e : Ex G H) (rx : RepB K G H d x) (ry : RepB K G H k y) (h : dGet d k = some o) : ∃ a ov, x = .ref a ∧ IsD H a ∧ DGet H a y ov ∧ ((o = none ∧ ov = none) ∨ ∃ dv v, o = some dv ∧ ov = some v ∧ Rep K G dv v) := by
  have goK : ∀ (a : Addr) (ks : List (Key × V)) (es : List (PyData × PyData)), Rd H a (.dK ks) → es.map (·.1) = ks.map (fun p => keyD p.1) → RepA K G (es.map (·.2)) (ks.map (·.2)) → dGet (.dict es) k = some o → ∃ ov, IsD H a ∧ DGet H a y ov ∧ ((o = none ∧ ov = none) ∨ ∃ dv v, o = some dv ∧ ov = some v ∧ Rep K G dv v) := by
    intro a ks es rd hk ra hd
    have hd : (unK k).map (valD unK es) = some o := by
      unfold dGet at hd
      split at hd
      · rename_i z
        cases z
        exact (noneK hk).elim
      · rename_i z
        cases z
        exact hd
      · rename_i z1 z2
        exact absurd rfl (z2 _)
    obtain ⟨kk, hkk, rfl⟩ := map_some hd
    refine ⟨valV ks kk, .inl ⟨_, rd⟩, .inl ⟨ks, kk, rd, key_rep hkk ry, rfl⟩, ?_⟩
    rcases valD_V unK unK_key hk ra kk with ⟨z1, z2⟩ | ⟨dv, v, z1, z2, z3⟩
    · exact .inl ⟨z1, z2⟩
    · exact .inr ⟨dv, v, z1, z2, z3⟩
  have goT : ∀ (a : Addr) (ks : List (List Key × V)) (es : List (PyData × PyData)), Rd H a (.dT ks) → es.map (·.1) = ks.map (fun p => keysD p.1) → RepA K G (es.map (·.2)) (ks.map (·.2)) → dGet (.dict ((.none, .none) :: es)) k = some o → ∃ ov, IsD H a ∧ DGet H a y ov ∧ ((o = none ∧ ov = none) ∨ ∃ dv v, o = some dv ∧ ov = some v ∧ Rep K G dv v) := by
    intro a ks es rd hk ra hd
    have hd : (unT k).map (valD unT es) = some o := hd
    obtain ⟨kk, hkk, rfl⟩ := map_some hd
    obtain ⟨b, rfl, hb⟩ := tkey_rep e hkk ry
    refine ⟨valV ks kk, .inr ⟨_, rd⟩, .inr ⟨ks, kk, b, rd, rfl, hb, rfl⟩, ?_⟩
    rcases valD_V unT unT_key hk ra kk with ⟨z1, z2⟩ | ⟨dv, v, z1, z2, z3⟩
    · exact .inl ⟨z1, z2⟩
    · exact .inr ⟨dv, v, z1, z2, z3⟩
  cases rx with
  | val r =>
    cases r with
    | dK rd hk ra => exact (goK _ _ _ (e.rd (.inr rd)) hk ra h).elim fun ov q => ⟨_, ov, rfl, q⟩
    | dT rd hk ra => exact (goT _ _ _ (e.rd (.inr rd)) hk ra h).elim fun ov q => ⟨_, ov, rfl, q⟩
    | _ => cases h
  | lst => cases h
  | dK rd hk ra => exact (goK _ _ _ (.of rd) hk ra h).elim fun ov q => ⟨_, ov, rfl, q⟩
  | dT rd hk ra => exact (goT _ _ _ (.of rd) hk ra h).elim fun ov q => ⟨_, ov, rfl, q⟩
/-- an own dict is written -/
theorem dput_ok {K : PySem.W.Frag} {G H : Hp} {a : Addr} {d k dv d' : PyData} {y v : V} (e : Ex G H) (ow : Own K G H a d) (ry : RepB K G H k y) (rv : Rep K G dv v) (h : dPut d k dv = some d') : ∃ o, DPut H a y v (upd H a o) ∧ Own K G (upd H a o) a d' := by
  cases ow with
  | lst => cases h
  | @dK ks es ha hk ra =>
    have h : ((unK k).bind fun kk => if es.length < sizeLine then some (PyData.dict (putD unK es k kk dv)) else none) = some d' := by
      unfold dPut at h
      split at h
      · rename_i z
        cases z
        exact (noneK hk).elim
      · rename_i z
        cases z
        exact h
      · rename_i z1 z2
        exact absurd rfl (z2 _)
    obtain ⟨kk, hkk, h⟩ := bind_some h
    obtain ⟨hl, rfl⟩ := if_some h
    have hl2 : ks.length < sizeLine := by
      have := congrArg List.length hk
      rw [List.length_map, List.length_map] at this
      omega
    refine ⟨.dK (putK ks kk v), .inl ⟨ks, kk, ha, key_rep hkk ry, hl2, rfl⟩, ?_⟩
    obtain ⟨p1, p2⟩ := putD_V unK unK_key (k := kk) rv hk ra
    rw [← unK_inv hkk] at p1 p2
    exact .dK upd_same p1 p2
  | @dT ks es ha hk ra =>
    have h : ((unT k).bind fun kk => if es.length < sizeLine then some (PyData.dict ((.none, .none) :: putD unT es k kk dv)) else none) = some d' := h
    obtain ⟨kk, hkk, h⟩ := bind_some h
    obtain ⟨hl, rfl⟩ := if_some h
    obtain ⟨b, rfl, hb⟩ := tkey_rep e hkk ry
    have hl2 : ks.length < sizeLine := by
      have := congrArg List.length hk
      rw [List.length_map, List.length_map] at this
      omega
    refine ⟨.dT (putK ks kk v), .inr ⟨ks, kk, b, ha, rfl, hb, hl2, rfl⟩, ?_⟩
    obtain ⟨p1, p2⟩ := putD_V unT unT_key (k := kk) rv hk ra
    rw [← unT_inv hkk] at p1 p2
    exact .dT upd_same p1 p2
section
variable {X : Cx} {rm m : Md} {a b c e : Expr} {f g h : SE} {pos p1 apos : Pos} {k : Nat} {x : Str}
def oDGet (d k : PyData) : Option PyData := (dGet d k).bind id
theorem d_dget (hr : Room k X.A) (ha : DX X .bor a f) (hb : DX X .bor b g) (hs : NoSl b := by intro _ _; rfl) : DX X .val (.Subscript a b pos) (eOp oDGet f g) :=
  ⟨(pe_dget (hu_of hr) ha.pe hb.pe hs).imp fun σ H Q ⟨G0, H0, G, ρ, d, s, ed, q⟩ => by
    obtain ⟨d1, e1, ed⟩ := bind_some ed
    obtain ⟨d2, e2, ed⟩ := bind_some ed
    obtain ⟨o, e3, e4⟩ := bind_some ed
    have e4 : o = some d := e4
    refine ⟨G0, H0, G, ρ, d1, s, e1, fun G1 H1 u gx1 r1 => ⟨G0, H0, G1, ρ, d2, s.gx' gx1, e2, fun G2 H2 w gx2 r2 => ?_⟩⟩
    obtain ⟨a', ov, z1, z2, z3, z4⟩ := dict_ok gx2.gh (RepB.mono gx2.g gx2.h r1) r2 e3
    rcases z4 with ⟨z5, _⟩ | ⟨dv, v, z5, z6, z7⟩
    · rw [z5] at e4; cases e4
    · rw [z5] at e4; cases e4
      subst z6
      exact ⟨a', v, z1, z3, q G2 H2 v (gx1.trans gx2) z7⟩⟩
def oDIn (k d : PyData) : Option PyData := (dGet d k).map fun o => .bool o.isSome
def oDNotIn (k d : PyData) : Option PyData := (dGet d k).map fun o => .bool (!o.isSome)
theorem din_of : ∀ σ H Q, tE X.K .val (eOp oDIn g f) σ H Q → tDIn (tE X.K .bor g) (tE X.K .bor f) σ H Q := fun σ H Q ⟨G0, H0, G, ρ, d, s, ed, q⟩ => by
  obtain ⟨d1, e1, ed⟩ := bind_some ed
  obtain ⟨d2, e2, ed⟩ := bind_some ed
  obtain ⟨o, e3, rfl⟩ := map_some ed
  refine ⟨G0, H0, G, ρ, d1, s, e1, fun G1 H1 u gx1 r1 => ⟨G0, H0, G1, ρ, d2, s.gx' gx1, e2, fun G2 H2 w gx2 r2 => ?_⟩⟩
  obtain ⟨a', ov, z1, z2, z3, z4⟩ := dict_ok gx2.gh r2 (RepB.mono gx2.g gx2.h r1) e3
  refine ⟨a', ov, z1, z3, ?_⟩
  have : ov.isSome = o.isSome := by
    rcases z4 with ⟨z5, z6⟩ | ⟨dv, v, z5, z6, z7⟩ <;> rw [z5, z6] <;> rfl
  rw [this]
  exact q G2 H2 _ (gx1.trans gx2) (.bl _)
theorem dnotin_of : ∀ σ H Q, tE X.K .val (eOp oDNotIn g f) σ H Q → tDNotIn (tE X.K .bor g) (tE X.K .bor f) σ H Q := fun σ H Q ⟨G0, H0, G, ρ, d, s, ed, q⟩ => by
  obtain ⟨d1, e1, ed⟩ := bind_some ed
  obtain ⟨d2, e2, ed⟩ := bind_some ed
  obtain ⟨o, e3, rfl⟩ := map_some ed
  refine ⟨G0, H0, G, ρ, d1, s, e1, fun G1 H1 u gx1 r1 => ⟨G0, H0, G1, ρ, d2, s.gx' gx1, e2, fun G2 H2 w gx2 r2 => ?_⟩⟩
  obtain ⟨a', ov, z1, z2, z3, z4⟩ := dict_ok gx2.gh r2 (RepB.mono gx2.g gx2.h r1) e3
  refine ⟨a', ov, z1, z3, ?_⟩
  have : ov.isSome = o.isSome := by
    rcases z4 with ⟨z5, z6⟩ | ⟨dv, v, z5, z6, z7⟩ <;> rw [z5, z6] <;> rfl
  rw [this]
  exact q G2 H2 _ (gx1.trans gx2) (.bl _)
theorem d_din (hr : Room k X.A) (ha : DX X .bor a f) (hb : DX X .bor b g) (hm : behindInMarks .In b = false := by rfl) : DX X .val (.Compare a [.In] [b] pos) (eOp oDIn f g) := ⟨(pe_cmp (pc_din (hu_of hr) ha.pe hb.pe) hm).imp din_of⟩
theorem t_din (hr : Room k X.A) (ha : DX X .bor a f) (hb : DX X .bor b g) (hm : behindInMarks .In b = false := by rfl) : DT X (.Compare a [.In] [b] pos) (bT (eOp oDIn f g)) := ⟨(pt_cmp (pc_din (hu_of hr) ha.pe hb.pe) hm).imp (tTest_of din_of)⟩
theorem d_dnotin (hr : Room k X.A) (ha : DX X .bor a f) (hb : DX X .bor b g) (hm : behindInMarks .NotIn b = false := by rfl) : DX X .val (.Compare a [.NotIn] [b] pos) (eOp oDNotIn f g) := ⟨(pe_cmp (pc_dnotin (hu_of hr) ha.pe hb.pe) hm).imp dnotin_of⟩
theorem t_dnotin (hr : Room k X.A) (ha : DX X .bor a f) (hb : DX X .bor b g) (hm : behindInMarks .NotIn b = false := by rfl) : DT X (.Compare a [.NotIn] [b] pos) (bT (eOp oDNotIn f g)) := ⟨(pt_cmp (pc_dnotin (hu_of hr) ha.pe hb.pe) hm).imp (tTest_of dnotin_of)⟩
/-- d.get(y, x) -/
def oDGet2 (d : PyData) : List PyData → Option PyData
  | [k, x] => (dGet d k).map fun o => o.getD x
  | _ => none
theorem d_dget2 (hr : Room k X.A) (ha : DX X .bor a f) (hb : DX X .bor b g) (hc : DX X .val c h) (m : M2 X a "get" apos b c pos := by exact ⟨rfl, rfl, rfl, rfl⟩) : DX X .val (.Call (.Attribute a "get" apos) [b, c] [] pos) (eBm oDGet2 f (aCons g (aCons h aNil))) :=
  ⟨(pe_dget2 (hu_of hr) ha.pe hb.pe hc.pe m).imp fun σ H Q ⟨G0, H0, G, ρ, d, s, ed, q⟩ => by
    obtain ⟨d1, e1, ed⟩ := bind_some ed
    obtain ⟨ds, e2, ed⟩ := bind_some ed
    obtain ⟨d2, e3, e2⟩ := bind_some e2
    obtain ⟨ds2, e4, e2⟩ := bind_some e2
    obtain ⟨d3, e5, e4⟩ := bind_some e4
    cases e4
    cases e2
    obtain ⟨o, e6, rfl⟩ := map_some (show (dGet d1 d2).map (fun o => o.getD d3) = some d from ed)
    refine ⟨G0, H0, G, ρ, d1, s, e1, fun G1 H1 u gx1 r1 => ?_⟩
    have isd : ∃ a', u = .ref a' ∧ IsD H1 a' := by
      cases r1 with
      | val r =>
        cases r with
        | dK rd _ _ => exact ⟨_, rfl, .inl ⟨_, gx1.gh.rd (.inr rd)⟩⟩
        | dT rd _ _ => exact ⟨_, rfl, .inr ⟨_, gx1.gh.rd (.inr rd)⟩⟩
        | _ => cases e6
      | lst => cases e6
      | dK rd _ _ => exact ⟨_, rfl, .inl ⟨_, .of rd⟩⟩
      | dT rd _ _ => exact ⟨_, rfl, .inr ⟨_, .of rd⟩⟩
    obtain ⟨a', rfl, isd⟩ := isd
    refine ⟨a', rfl, isd, G0, H0, G1, ρ, d2, s.gx' gx1, e3, fun G2 H2 w gx2 r2 => ⟨G0, H0, G2, ρ, d3, (s.gx' gx1).gx' gx2, e5, fun G3 H3 z gx3 r3 => ?_⟩⟩
    have gx23 := gx2.trans gx3
    obtain ⟨a2, ov, z1, z2, z3, z4⟩ := dict_ok gx3.gh (RepB.mono gx23.g gx23.h r1) (RepB.mono gx3.g gx3.h r2) e6
    cases z1
    refine ⟨ov, z3, q G3 H3 _ (gx1.trans gx23) ?_⟩
    rcases z4 with ⟨z5, z6⟩ | ⟨dv, v, z5, z6, z7⟩
    · rw [z5, z6]; exact r3
    · rw [z5, z6]; exact z7⟩
theorem d_dnewK : DX X .new (.Dict [] [] pos) (eK (.dict [])) := ⟨pe_dnewK.imp fun σ H Q ⟨G0, H0, G, ρ, d, s, ed, q⟩ => by
  cases ed
  exact fun p np => q G _ _ (Gx.mine s.gx.gh np) ⟨p, rfl, np, s.gx.gh.back np, .dK upd_same rfl .nil⟩⟩
theorem d_dnewT : DX X .new (.Dict [] [] pos) (eK (.dict [(.none, .none)])) := ⟨pe_dnewT.imp fun σ H Q ⟨G0, H0, G, ρ, d, s, ed, q⟩ => by
  cases ed
  exact fun p np => q G _ _ (Gx.mine s.gx.gh np) ⟨p, rfl, np, s.gx.gh.back np, .dT upd_same rfl .nil⟩⟩
/-- d[k] = v -/
def sDPut (i : Nat) (fv fk : SE) : SS := fun ρ => match ρ[i]? with
  | some (.own d) => (fv ρ).bind fun v => (fk ρ).bind fun k => (dPut d k v).bind fun d' => some (.nx (ρ.set i (.own d')))
  | _ => none
theorem s_dput (i : Nat) {tpos : Pos} (hr : Room k X.A) (he : DX X .val e g) (hi : DX X .bor b f) (hN : X.N[i]? = some x := by rfl) (hv : Vis X.env.scope x := by first | exact Or.inl rfl | exact Or.inr (Or.inl rfl) | exact Or.inr (Or.inr rfl)) (hd : (x == ("__debug__" : Str)) = false := by decide)
    (hcd : (x == ("__classdict__" : Str)) = false := by decide) (hs : swapsWith e (some (.Subscript (.Name x p1) b tpos)) pos.line X.env = pure false := by rfl) : DS X rm (.Assign [.Subscript (.Name x p1) b tpos] e pos) (sDPut i g f) :=
  ⟨(ps_dput (hu_of hr) (pv i hN hv hd hcd) hi.pe he.pe hs).imp fun D σ H ⟨G0, H0, G, ρ, o, s, ed, q⟩ => by
    unfold sDPut at ed
    split at ed
    · rename_i d hd
      obtain ⟨v, e1, ed⟩ := bind_some ed
      obtain ⟨kd, e2, ed⟩ := bind_some ed
      obtain ⟨d', e3, ed⟩ := bind_some ed
      cases ed
      refine ⟨G0, H0, G, ρ, v, s, e1, fun G1 H1 u gx1 r1 => ?_⟩
      have s1 := s.gx' gx1
      obtain ⟨p, h1, h2, h3, h4⟩ := s1.own hd
      refine ⟨_, h1, G0, H0, G1, ρ, kd, s1, e2, fun G2 H2 y gx2 r2 => ?_⟩
      have s2 := s1.gx' gx2
      obtain ⟨p', k1, k2, k3, k4⟩ := s2.own hd
      rw [h1] at k1; cases k1
      obtain ⟨ho, z1, z2⟩ := dput_ok gx2.gh k4 r2 (Rep.mono gx2.g r1) e3
      exact ⟨p, _, rfl, z1, q G2 σ _ (gx1.g.trans gx2.g) (s2.write hd h1 k2 k3 z2)⟩
    · cases ed⟩
@[simp] theorem sDPut_r {i : Nat} {ρ : Rho} : sDPut i f g ρ = (match getS ρ i with
  | some (.own d) => (f ρ).bind fun v => (g ρ).bind fun k => (dPut d k v).bind fun d' => some (.nx (ρ.set i (.own d')))
  | _ => none) := by rw [getS_eq]; rfl
end
end DV

namespace DV
open PySem L2 PySem.Spec PyProof.Rows
/-! ### tuple + tuple, slices of tuples -/
theorem tup_rep {K : PySem.W.Frag} {G H : Hp} {ds : List PyData} {v : V} (h : RepB K G H (.tuple ds) v) : ∃ a vs, v = .ref a ∧ G a = some (.tup vs) ∧ RepA K G ds vs := by
  cases h with
  | val h =>
    cases h with
    | tup h r => exact ⟨_, _, rfl, h, r⟩
def oTCat : PyData → PyData → Option PyData
  | .tuple xs, .tuple ys => if xs.length + ys.length ≤ sizeLine then some (.tuple (xs ++ ys)) else none
  | _, _ => none
theorem repA_nil {K : PySem.W.Frag} {G : Hp} {ds : List PyData} (h : RepA K G ds []) : ds = [] := by cases h; rfl
theorem opf_tcat {K : PySem.W.Frag} : OpF K .val (rCatA K) oTCat := fun G H d1 d2 d x y Q e r1 r2 h q => by
  unfold oTCat at h
  split at h
  · obtain ⟨hl, rfl⟩ := if_some h
    obtain ⟨a, vs, rfl, ha, ra⟩ := tup_rep r1
    obtain ⟨b, us, rfl, hb, rb⟩ := tup_rep r2
    refine ⟨a, b, vs, us, rfl, rfl, e.sqt (sqtOf ha), e.sqt (sqtOf hb), by rw [← ra.len, ← rb.len]; exact hl, fun z => ?_, fun _ z => ?_, fun _ _ p np => ?_⟩
    · subst z
      rw [repA_nil ra, List.nil_append] at q
      exact q G H _ (Gx.refl e) fun _ => .tup hb rb
    · subst z
      rw [repA_nil rb, List.append_nil] at q
      exact q G H _ (Gx.refl e) fun _ => .tup ha ra
    · exact q _ _ _ (Gx.new e np) fun _ => .tup upd_same ((ra.app rb).mono (Ex.new (e.back np)))
  · cases h
def oSlT (d : PyData) (lo hi : Option Int) : Option PyData := match d with
  | .tuple ds => some (.tuple (cutD ds lo hi))
  | _ => none
section
variable {X : Cx} {rm m : Md} {e a : Expr} {f g : SE} {lo hi : Option Expr} {gl gh : SO} {p2 pos cpos apos : Pos}
theorem d_sliceT (ha : DX X .bor e f) (hl : DO X lo gl) (hu : DO X hi gh) : DX X .val (.Subscript e (.Slice lo hi none p2) pos) (eSl oSlT f gl gh) :=
  ⟨(pe_slice sl_tupA ha.pe hl.po hu.po).imp (sl_three (mo := .bor) (fun G0 H0 G1 H1 G H d1 d lo hi x Q e gx r1 h q => by
    unfold oSlT at h
    split at h
    · rename_i ds
      cases h
      obtain ⟨a, vs, rfl, h1, ra⟩ := tup_rep r1
      refine ⟨a, vs, rfl, e.sqt (sqtOf h1), fun z => ?_, fun _ p np => ?_⟩
      · have : cutD ds lo hi = ds := by
          unfold cutD
          rw [ra.len, z.1, z.2, List.drop_zero, Nat.sub_zero, ← ra.len, List.take_length]
        rw [this] at q
        exact q G H _ (Gx.refl e) (.tup h1 ra)
      · exact q _ _ _ (Gx.new e np) (.tup upd_same ((ra.cut lo hi).mono (Ex.new (e.back np))))
    · cases h) fun h => h)⟩
/-- f(..).append(x): a new list that nobody keeps -/
def sAppTmp (f g : SE) : SS := fun ρ => (f ρ).bind fun d => match d with
  | .list l => (g ρ).bind fun _ => if l.length < sizeLine then some (.nx ρ) else none
  | _ => none
theorem s_appTmp {o : Expr} (ho : DX X .new o f) (ha : DX X .val a g)
    (hbase : attributeBase o "append" X.env (eval o X.env) = eval o X.env := by rfl)
    (hfew : ((backTo cpos (starEach (a :: []) X.env)).all (fun x => !x.1) && (backToKw cpos (keywordEach [] X.env)).all (fun x => x.1.isSome)
      && decide ((a :: []).length + ([] : List Keyword).length + (if ([] : List Keyword).isEmpty then 0 else 1) < 30)) = true := by rfl)
    (hline : (apos.endLine == cpos.line) = true := by rfl) (hs : starEach (a :: []) X.env = (false, eval a X.env) :: starEach [] X.env := by rfl) (hplain : (backTo cpos (starEach [] X.env)).any (·.1) = false := by rfl)
    (hsw : swapsWith (.Call (.Attribute o "append" apos) [a] [] cpos) none pos.line X.env = pure false := by rfl) :
    DS X rm (.Expr (.Call (.Attribute o "append" apos) [a] [] cpos) pos) (sAppTmp f g) :=
  ⟨(ps_expr (pe_bm PySem.F.plainAttrs_list PySem.F.slot_list_append PySem.F.type_list_append mt_append ho.pe (a_cons ha a_nil hs).pa hbase hfew hline hs hplain) hsw).imp fun D σ H ⟨G0, H0, G, ρ, o, s, ed, q⟩ => by
    obtain ⟨d, e1, ed⟩ := bind_some ed
    split at ed
    · rename_i l
      obtain ⟨d2, e2, ed⟩ := bind_some ed
      obtain ⟨hl, ed⟩ := if_some ed
      subst ed
      refine ⟨G0, H0, G, ρ, _, s, e1, fun G1 H1 u gx1 r1 => ?_⟩
      obtain ⟨p, rfl, hp, hg, ow⟩ := r1
      obtain ⟨vs, hv, rl⟩ := own_list ow
      refine ⟨.inl ⟨rfl, _, SqL.of hv⟩, G0, H0, G1, ρ, [d2], s.gx' gx1, ?_, fun G2 H2 us gx2 ra => ?_⟩
      · show (g ρ).bind _ = _
        rw [e2]; rfl
      · cases ra with
        | cons r2 t =>
          cases t
          have hv2 := gx2.h _ _ hv
          refine ⟨p, vs, _, rfl, rfl, hv2, by rw [← rl.len]; exact hl, ?_⟩
          have hg2 : G2 p = none := by
            cases z : G2 p with
            | none => rfl
            | some w =>
              rcases gx2.nw p (by rw [z]; simp) with y | y
              · exact absurd hg y
              · rw [hv] at y; exact (show False from y).elim
          have x12 := gx1.trans gx2
          exact q G2 σ _ x12.g (s.gx' ⟨x12.g, x12.h.mut hp, x12.gh.mut hg2, x12.nw⟩)
    · cases ed⟩
end
@[simp] theorem sAppTmp_r {f g : SE} {ρ : Rho} : sAppTmp f g ρ = (f ρ).bind fun d => match d with
  | .list l => (g ρ).bind fun _ => if l.length < sizeLine then some (.nx ρ) else none
  | _ => none := rfl
end DV

namespace DV
open PySem L2 PySem.Spec PyProof.Rows
/-! ### == of dicts -/
def shapedAll : List PyData → Bool
  | [] => true
  | d :: r => SeqAt.shaped d && shapedAll r
theorem shapedAll_get : ∀ {l : List PyData}, shapedAll l = true → ∀ d ∈ l, SeqAt.shaped d = true
  | [], _, d, h => by cases h
  | e :: r, c, d, h => by
    have c' : SeqAt.shaped e = true ∧ shapedAll r = true := by simpa [shapedAll] using c
    rcases List.mem_cons.mp h with rfl | h
    · exact c'.1
    · exact shapedAll_get c'.2 d h
def eqvD : List (PyData × PyData) → List (PyData × PyData) → Bool
  | [], _ => true
  | p :: es, ls => (match (unK p.1).bind (valD unK ls) with
    | some v => PyData.eqv p.2 v
    | none => false) && eqvD es ls
def oDEq (ne : Bool) : PyData → PyData → Option PyData
  | .dict es, .dict ls => if (unKs (es.map (·.1))).isSome = true ∧ (unKs (ls.map (·.1))).isSome = true ∧ shapedAll (es.map (·.2)) = true ∧ shapedAll (ls.map (·.2)) = true then some (.bool (xor ne (es.length == ls.length && eqvD es ls))) else none
  | _, _ => none
def rDEq (K : PySem.W.Frag) (ne : Bool) : R2 := fun x y H Q => ∃ a b ks ls es fs, x = .ref a ∧ y = .ref b ∧ Rd H a (.dK ks) ∧ Rd H b (.dK ls) ∧ es.map (·.1) = ks.map (fun p => keyD p.1) ∧ fs.map (·.1) = ls.map (fun p => keyD p.1) ∧ DpAll K H (ks.map (·.2)) (es.map (·.2)) ∧ DpAll K H (ls.map (·.2)) (fs.map (·.2)) ∧ shapedAll (es.map (·.2)) = true ∧ shapedAll (fs.map (·.2)) = true ∧ Q (.bl (xor ne (es.length == fs.length && eqvD es fs))) H
theorem valD_dp {K : PySem.W.Frag} {H : Hp} : ∀ {fs : List (PyData × PyData)} {ls : List (Key × V)}, fs.map (·.1) = ls.map (fun p => keyD p.1) → DpAll K H (ls.map (·.2)) (fs.map (·.2)) → shapedAll (fs.map (·.2)) = true → ∀ k, (valD unK fs k = none ∧ valV ls k = none) ∨ ∃ d v, valD unK fs k = some d ∧ valV ls k = some v ∧ Dp K H v d ∧ SeqAt.shaped d = true
  | [], [], _, _, _, k => .inl ⟨rfl, rfl⟩
  | [], _ :: _, h, _, _, _ => by simp at h
  | _ :: _, [], h, _, _, _ => by simp at h
  | p :: fs, q :: ls, h, r, c, k => by
    rw [List.map_cons, List.map_cons] at h
    injection h with h1 h2
    rw [List.map_cons, List.map_cons] at r
    have c' : SeqAt.shaped p.2 = true ∧ shapedAll (fs.map (·.2)) = true := by simpa [shapedAll] using c
    cases r with
    | cons r1 r2 =>
      unfold valD
      rw [h1, unK_key]
      by_cases c2 : q.1 = k
      · rw [if_pos (by rw [c2]), valV_pos c2]
        exact .inr ⟨_, _, rfl, rfl, r1, c'.1⟩
      · rw [if_neg (fun z => c2 (Option.some.inj z)), valV_neg c2]
        exact valD_dp h2 r2 c'.2 k
theorem hits_dp {X : Cx} {pins : List (Addr × Obj)} {σ : L2.St} {H : Hp} {s : Shared} (I : Inv X pins σ H s) {A : Around} (hu : A.in1.units + 64 < cLine) {fs : List (PyData × PyData)} {ls : List (Key × V)} {vb : List (Key × Value)} (rb : KV ls vb) (hk : fs.map (·.1) = ls.map (fun p => keyD p.1)) (dp : DpAll X.K H (ls.map (·.2)) (fs.map (·.2))) (sh : shapedAll (fs.map (·.2)) = true) :
    ∀ {ks : List (Key × V)} {va : List (Key × Value)} {es : List (PyData × PyData)}, KV ks va → es.map (·.1) = ks.map (fun p => keyD p.1) → DpAll X.K H (ks.map (·.2)) (es.map (·.2)) → shapedAll (es.map (·.2)) = true → PySem.W.KeqHits A.in1 s vb va (eqvD es fs) := by
  intro ks va es ra
  unfold KV at ra
  induction ra generalizing es with
  | nil =>
    intro h _ _
    cases es with
    | nil => exact .nil
    | cons _ _ => simp at h
  | @cons p q ps qs h t ih =>
    intro hke r c
    cases es with
    | nil => simp at hke
    | cons e es =>
      rw [List.map_cons, List.map_cons] at hke
      injection hke with e1 e2
      rw [List.map_cons, List.map_cons] at r
      have c' : SeqAt.shaped e.2 = true ∧ shapedAll (es.map (·.2)) = true := by simpa [shapedAll] using c
      cases r with
      | cons r1 r2 =>
        obtain ⟨h1, h2⟩ := h
        obtain ⟨key, v⟩ := q
        have h1' : p.1 = key := h1
        have ih' := ih e2 r2 c'.2
        have rel := rb.val p.1
        unfold eqvD
        rw [e1, unK_key, Option.bind_some]
        rcases valD_dp hk dp sh p.1 with ⟨z1, z2⟩ | ⟨d, w, z1, z2, z3, z4⟩
        · rw [z1]
          rw [z2] at rel
          have hn := rel.none_of
          rw [h1'] at hn
          simp only [Bool.false_and]
          exact .miss hn
        · rw [z1]
          rw [z2] at rel
          obtain ⟨y, hy, ry⟩ := rel.some_of
          rw [h1'] at hy
          obtain ⟨as, q1⟩ := Dp.reads I _ _ _ r1 h2
          obtain ⟨bs, q2⟩ := Dp.reads I _ _ _ z3 ry
          exact .hit hy (PySem.W.keq_at q1 q2 c'.1 z4 hu) ih'
theorem len_of_map {α β γ : Type} {l : List α} {m : List β} {f : α → γ} {g : β → γ} (h : l.map f = m.map g) : l.length = m.length := by
  have := congrArg List.length h
  rw [List.length_map, List.length_map] at this
  exact this
theorem op_deq {X : Cx} (hu : X.A.units + 65 < cLine) : OpR X (compareOp .Eq) (rDEq X.K false) := by
  intro pins s σ H x y v u Q I rx ry h
  obtain ⟨a, b, ks, ls, es, fs, rfl, rfl, ha, hb, h1, h2, d1, d2, s1, s2, q⟩ := h
  obtain rfl : v = Value.ref a := rx
  obtain rfl : u = Value.ref b := ry
  obtain ⟨_, ya, va, ra, da⟩ := dk_rd I.hok ha
  obtain ⟨_, yb, vb, rb, db⟩ := dk_rd I.hok hb
  have l1 := len_of_map h1
  have l2 := len_of_map h2
  have l3 := ra.length
  have l4 := rb.length
  refine PySem.W.keq_eq (knd := mixKind X.prog X.w) (r := eqvD es fs) ya yb da db (by omega) (fun _ => hits_dp I (by show X.A.units + 1 + 64 < cLine; omega) rb h2 d2 s2 ra h1 d1 s1) ⟨.bl _, H, I, ?_, q⟩
  rw [l1, l2, l3, l4]
  show Value.bool _ = Value.bool _
  simp
theorem op_dne {X : Cx} (hu : X.A.units + 65 < cLine) : OpR X (compareOp .NotEq) (rDEq X.K true) := by
  intro pins s σ H x y v u Q I rx ry h
  obtain ⟨a, b, ks, ls, es, fs, rfl, rfl, ha, hb, h1, h2, d1, d2, s1, s2, q⟩ := h
  obtain rfl : v = Value.ref a := rx
  obtain rfl : u = Value.ref b := ry
  obtain ⟨_, ya, va, ra, da⟩ := dk_rd I.hok ha
  obtain ⟨_, yb, vb, rb, db⟩ := dk_rd I.hok hb
  have l1 := len_of_map h1
  have l2 := len_of_map h2
  have l3 := ra.length
  have l4 := rb.length
  refine PySem.W.keq_ne (knd := mixKind X.prog X.w) (r := eqvD es fs) ya yb da db (by omega) (fun _ => hits_dp I (by show X.A.units + 1 + 64 < cLine; omega) rb h2 d2 s2 ra h1 d1 s1) ⟨.bl _, H, I, ?_, q⟩
  rw [l1, l2, l3, l4]
  show Value.bool _ = Value.bool _
  simp
theorem shaped_canAll : ∀ {l : List PyData}, shapedAll l = true → PyData.canLayAll0 l = true
  | [], _ => by simp [PyData.canLayAll0]
  | d :: r, c => by
    have c' : SeqAt.shaped d = true ∧ shapedAll r = true := by simpa [shapedAll] using c
    simp [PyData.canLayAll0, SeqAt.canLay_of_shaped c'.1, shaped_canAll c'.2]
theorem dk_rep {K : PySem.W.Frag} {G H : Hp} (e : Ex G H) {es : List (PyData × PyData)} {v : V} (hk : (unKs (es.map (·.1))).isSome = true) (r : RepB K G H (.dict es) v) : ∃ a ks, v = .ref a ∧ Rd H a (.dK ks) ∧ es.map (·.1) = ks.map (fun p => keyD p.1) ∧ RepA K G (es.map (·.2)) (ks.map (·.2)) := by
  have noT : ∀ {es' : List (PyData × PyData)}, es = (.none, .none) :: es' → False := fun z => by
    subst z
    simp [unKs, unK] at hk
  cases r with
  | val r =>
    cases r with
    | dK h k ra => exact ⟨_, _, rfl, e.rd (.inr h), k, ra⟩
    | dT h k ra => exact (noT rfl).elim
  | dK h k ra => exact ⟨_, _, rfl, .inl h, k, ra⟩
  | dT h k ra => exact (noT rfl).elim
theorem opf_deq {K : PySem.W.Frag} (ne : Bool) : OpF K .val (rDEq K ne) (oDEq ne) := fun G H d1 d2 d x y Q e r1 r2 h q => by
  unfold oDEq at h
  split at h
  · obtain ⟨⟨c1, c2, c3, c4⟩, rfl⟩ := if_some h
    obtain ⟨a, ks, rfl, ha, h1, ra⟩ := dk_rep e c1 r1
    obtain ⟨b, ls, rfl, hb, h2, rb⟩ := dk_rep e c2 r2
    exact ⟨a, b, ks, ls, _, _, rfl, rfl, ha, hb, h1, h2, ra.dp e (shaped_canAll c3), rb.dp e (shaped_canAll c4), c3, c4, q G H _ (Gx.refl e) fun _ => .bl _⟩
  · cases h
/-! ### a dict is walked -/
def keysOf : PyData → Option (List PyData)
  | .dict ((.none, .none) :: es) => some (es.map (·.1))
  | .dict es => some (es.map (·.1))
  | _ => none
def sKeys (f : SE) : SI := fun ρ => (f ρ).bind keysOf
section
variable {K : PySem.W.Frag} {B G H : Hp} {ds : List PyData} {a : Addr} {o : Obj}
theorem rep_key (k : Key) : Rep K G (keyD k) (kV k) := by
  cases k with
  | inl i => exact .int i
  | inr x => exact .str x
theorem rep_keys : ∀ ks : List Key, RepA K G (ks.map keyD) (ks.map kV)
  | [] => .nil
  | k :: ks => .cons (rep_key k) (rep_keys ks)
theorem WalkD.keys {ks : List (Key × V)} (h : G a = some (.frz o (.dK ks))) (e : ds = ks.map fun p => keyD p.1) : WalkD K B G (Itk a o ks) ds where
  goes := fun i G2 H2 hi g1 g2 b => ⟨g2 _ _ (g1 _ _ h), by rw [e, List.length_map] at hi; exact hi⟩
  stops := fun G2 H2 g1 g2 b => ⟨g2 _ _ (g1 _ _ h), by rw [e, List.length_map]; exact Nat.le_refl _⟩
  yields := fun i d G2 H2 x H3 hi g1 g2 b y => by
    obtain ⟨rfl, k, v, hk, rfl⟩ := y
    refine ⟨G2, Gx.refl g2, ?_⟩
    rw [e, List.getElem?_map, hk] at hi
    cases hi
    exact rep_key k
theorem WalkD.keysT {ks : List (List Key × V)} (h : G a = some (.frz o (.dT ks))) (e : ds = ks.map fun p => keysD p.1) : WalkD K B G (Itkt a o ks) ds where
  goes := fun i G2 H2 hi g1 g2 b => ⟨g2 _ _ (g1 _ _ h), by rw [e, List.length_map] at hi; exact hi⟩
  stops := fun G2 H2 g1 g2 b => ⟨g2 _ _ (g1 _ _ h), by rw [e, List.length_map]; exact Nat.le_refl _⟩
  yields := fun i d G2 H2 x H3 hi g1 g2 b y => by
    obtain ⟨rfl, k, v, q, hk, rfl, hq⟩ := y
    rw [e, List.getElem?_map, hk] at hi
    cases hi
    by_cases n : G2 q = none
    · refine ⟨upd G2 q (.tup (k.map kV)), ⟨Ex.new n, Ex.refl _, fun b u hb => ?_, fun b hb => ?_⟩, .tup upd_same (rep_keys k)⟩
      · by_cases z : b = q
        · subst z; rw [upd_same] at hb; rw [hq]; exact hb
        · rw [upd_ne z] at hb; exact g2 _ _ hb
      · by_cases z : b = q
        · subst z; rw [hq]; exact .inr trivial
        · rw [upd_ne z] at hb; exact .inl hb
    · refine ⟨G2, Gx.refl g2, .tup ?_ (rep_keys k)⟩
      cases z : G2 q with
      | none => exact absurd z n
      | some u => rw [g2 _ _ z] at hq; exact hq
end
section
variable {X : Cx} {rm m : Md} {a b c e tg : Expr} {f g h : SE} {pos p1 apos : Pos} {k : Nat} {x : Str}
theorem i_keys (ha : DX X .val e f) : DI X tg e false (sKeys f) := ⟨(pi_keys ha.pe).imp fun σ H R ⟨G0, H0, G, ρ, ds, s, ed, q⟩ => by
  obtain ⟨d, e1, e2⟩ := bind_some ed
  refine ⟨G0, H0, G, ρ, d, s, e1, fun G' H' v gx r => ?_⟩
  cases (show Rep X.K G' d v from r) with
  | @dK a ks es h hk ra =>
    obtain ⟨o, h⟩ := h
    refine ⟨a, o, rfl, .inl ⟨ks, gx.gh _ _ h, q G' H' _ gx (WalkD.keys h ?_)⟩⟩
    unfold keysOf at e2
    split at e2
    · rename_i z
      cases z
      exact (noneK hk).elim
    · rename_i z
      cases z
      cases e2
      exact hk
    · cases e2
  | @dT a ks es h hk ra =>
    obtain ⟨o, h⟩ := h
    refine ⟨a, o, rfl, .inr ⟨ks, gx.gh _ _ h, q G' H' _ gx (WalkD.keysT h ?_)⟩⟩
    cases e2
    exact hk
  | _ => cases e2⟩
@[simp] theorem sKeys_r {ρ : Rho} : sKeys f ρ = (f ρ).bind keysOf := rfl
/-! ### {k: v, ..} -/
def mergeD : List (PyData × PyData) → List (PyData × PyData) → Option (List (PyData × PyData))
  | acc, [] => some acc
  | acc, p :: r => (unK p.1).bind fun k => mergeD (putD unK acc p.1 k p.2) r
theorem mergeD_V {K : PySem.W.Frag} {G : Hp} : ∀ {es acc : List (PyData × PyData)} {kvs : List (Key × V)} {ks : List V} {vs : List V} {out : List (PyData × PyData)}, acc.map (·.1) = kvs.map (fun p => keyD p.1) → RepA K G (acc.map (·.2)) (kvs.map (·.2)) → RepA K G (es.map (·.1)) ks → RepA K G (es.map (·.2)) vs → mergeD acc es = some out →
    ∃ more : List (Key × V), ks.zip vs = more.map (fun kv => (kV kv.1, kv.2)) ∧ more.length = es.length ∧ out.map (·.1) = (mergeK kvs more).map (fun p => keyD p.1) ∧ RepA K G (out.map (·.2)) ((mergeK kvs more).map (·.2))
  | [], acc, kvs, ks, vs, out, h, r, ra, rb, e => by
    cases e
    rw [List.map_nil] at ra rb
    cases ra
    exact ⟨[], rfl, rfl, h, r⟩
  | p :: es, acc, kvs, ks, vs, out, h, r, ra, rb, e => by
    rw [List.map_cons] at ra rb
    cases ra with
    | @cons _ _ k ks rk rks =>
    cases rb with
    | @cons _ _ v vs rv rvs =>
    obtain ⟨kk, e1, e2⟩ := bind_some e
    rw [unK_inv e1] at e2
    obtain ⟨p1, p2⟩ := putD_V unK unK_key (k := kk) rv h r
    obtain ⟨more, m1, m2, m3, m4⟩ := mergeD_V p1 p2 rks rvs e2
    refine ⟨(kk, v) :: more, ?_, congrArg (· + 1) m2, m3, m4⟩
    rw [List.zip_cons_cons, List.map_cons, m1]
    have : k = kV kk := key_rep (H := G) e1 (.val rk)
    rw [this]
def eDsp (l : List (SE × SE)) : SE := fun ρ => (pairsD l ρ).bind fun es => if es.length ≤ 15 then (mergeD [] es).map .dict else none
where pairsD : List (SE × SE) → Rho → Option (List (PyData × PyData))
  | [], _ => some []
  | p :: r, ρ => (p.1 ρ).bind fun k => (p.2 ρ).bind fun v => (pairsD r ρ).map fun l => (k, v) :: l
structure DP (X : Cx) (pos : Pos) (keys : List (Option Expr)) (values : List Expr) (l : List (SE × SE)) : Prop where
  pps : ∃ trs, PPs X pos keys values trs ∧ ∀ (σ : L2.St) (H : Hp) (G0 : Fr) (H0 G : Hp) (ρ : Rho) (es : List (PyData × PyData)) (Q : List (V × V) → Hp → Prop), Sok X.K G0 H0 G ρ σ H → eDsp.pairsD l ρ = some es →
    (∀ G' H' ks vs, Gx G H G' H' → RepA X.K G' (es.map (·.1)) ks → RepA X.K G' (es.map (·.2)) vs → Q (ks.zip vs) H') → tPairs trs σ H Q
theorem dp_nil : DP X pos [] [] [] := ⟨[], pps_nil, fun σ H G0 H0 G ρ es Q s e q => by
  cases e
  exact q G H [] [] (Gx.refl s.gx.gh) .nil .nil⟩
theorem dp_cons {keys : List (Option Expr)} {values : List Expr} {l : List (SE × SE)} (hk : DX X .val a f) (hv : DX X .val b g) (hr : DP X pos keys values l) : DP X pos (some a :: keys) (b :: values) ((f, g) :: l) := by
  obtain ⟨trs, hp, w⟩ := hr.pps
  refine ⟨(tE X.K .val f, tE X.K .val g) :: trs, pps_cons hk.pe hv.pe hp, fun σ H G0 H0 G ρ es Q s e q => ?_⟩
  obtain ⟨d1, e1, e⟩ := bind_some e
  obtain ⟨d2, e2, e⟩ := bind_some e
  obtain ⟨es', e3, rfl⟩ := map_some e
  refine ⟨G0, H0, G, ρ, d1, s, e1, fun G1 H1 k gx1 r1 => ⟨G0, H0, G1, ρ, d2, s.gx' gx1, e2, fun G2 H2 v gx2 r2 => ?_⟩⟩
  refine w σ H2 G0 H0 G2 ρ es' _ ((s.gx' gx1).gx' gx2) e3 fun G3 H3 ks vs gx3 ra rb => ?_
  exact q G3 H3 (k :: ks) (v :: vs) ((gx1.trans gx2).trans gx3) (.cons (Rep.mono (gx2.trans gx3).g r1) ra) (.cons (Rep.mono gx3.g r2) rb)
theorem d_dsp {keys : List (Option Expr)} {values : List Expr} {l : List (SE × SE)} (h : DP X pos keys values l) (hall : keys.all (·.isSome) = true := by rfl) (hl : keys.length = values.length := by rfl) (h0 : keys ≠ [] := by simp)
    (h15 : keys.length ≤ 15 := by decide) : DX X .new (.Dict keys values pos) (eDsp l) := by
  obtain ⟨trs, hp, w⟩ := h.pps
  refine ⟨(pe_disp hp hall hl h0 h15).imp fun σ H Q ⟨G0, H0, G, ρ, d, s, ed, q⟩ => ?_⟩
  obtain ⟨es, e1, ed⟩ := bind_some ed
  have ed : (if es.length ≤ 15 then (mergeD [] es).map PyData.dict else none) = some d := ed
  split at ed
  · rename_i h15'
    obtain ⟨out, e2, rfl⟩ := map_some ed
    intro p np
    have gx0 : Gx G H G (upd H p (.dK [])) := Gx.mine s.gx.gh np
    have g0 : G p = none := s.gx.gh.back np
    refine w σ _ G0 H0 G ρ es _ (s.gx' gx0) e1 fun G1 H1 ks vs gx1 ra rb => ?_
    have hp1 : H1 p = some (.dK []) := gx1.h _ _ upd_same
    have g1 : G1 p = none := by
      cases z : G1 p with
      | none => rfl
      | some u =>
        rcases gx1.nw p (by rw [z]; simp) with y | y
        · exact absurd g0 y
        · rw [upd_same] at y; exact (show False from y).elim
    obtain ⟨more, m1, m2, m3, m4⟩ := mergeD_V (acc := []) (kvs := []) rfl .nil ra rb e2
    refine ⟨hp1, more, m1, by omega, ?_⟩
    have x01 := gx0.trans gx1
    exact q G1 _ _ ⟨x01.g, x01.h.mut np, x01.gh.mut g1, x01.nw⟩ ⟨p, rfl, np, g1, .dK upd_same m3 m4⟩
  · cases ed
/-! ### max and min of three -/
def cMax3 : List PyData → Option PyData
  | [.int i, .int j, .int l] => some (.int (max (max i j) l))
  | _ => none
def cMin3 : List PyData → Option PyData
  | [.int i, .int j, .int l] => some (.int (min (min i j) l))
  | _ => none
theorem RepBA.three {K : PySem.W.Frag} {G H : Hp} {d1 d2 d3 : PyData} {vs : List V} (h : RepBA K G H [d1, d2, d3] vs) : ∃ v w z, vs = [v, w, z] ∧ RepB K G H d1 v ∧ RepB K G H d2 w ∧ RepB K G H d3 z := by
  cases h with
  | cons h t => cases t with
    | cons h2 t2 => cases t2 with
      | cons h3 t3 => cases t3; exact ⟨_, _, _, rfl, h, h2, h3⟩
theorem cf_max3 {K : PySem.W.Frag} : CallF K .val (rNuC3 nuMax3) cMax3 := fun G H ds d vs Q e r h q => by
  unfold cMax3 at h
  split at h
  · rename_i i j l
    cases h
    obtain ⟨v, w, z, rfl, r1, r2, r3⟩ := r.three
    cases r1.int
    cases r2.int
    cases r3.int
    refine ⟨_, _, _, .int (max (max i j) l), rfl, ?_, q G H _ (Gx.refl e) fun _ => .int _⟩
    have e2 : ∀ a b : Int, nuMax2 (.int a) (.int b) = some (.int (max a b)) := fun a b => by
      show some (if decide (a < b) = true then V.int b else V.int a) = _
      by_cases c : a < b
      · rw [decide_eq_true c, if_pos rfl, Int.max_eq_right (by omega)]
      · rw [decide_eq_false c, if_neg Bool.false_ne_true, Int.max_eq_left (by omega)]
    unfold nuMax3
    rw [e2, Option.bind_some, e2]
  · cases h
theorem bor3 : ∀ m ∈ [Md.bor, Md.bor, Md.bor], m = .bor := b_cons' bor2
/-! ### len of a dict -/
def cLenD : List PyData → Option PyData
  | [.dict ((.none, .none) :: es)] => some (.int (es.length : Nat))
  | [.dict es] => some (.int (es.length : Nat))
  | _ => none
def rLenD : List V → Hp → VK → Prop := fun xs H Q => ∃ (p : Addr) (n : Nat), xs = [.ref p] ∧ ((∃ kvs, Rd H p (.dK kvs) ∧ n = kvs.length) ∨ ∃ kvs, Rd H p (.dT kvs) ∧ n = kvs.length) ∧ Q (.int (n : Nat)) H
theorem call_lenD : CallR X (.builtin "len") rLenD := by
  intro pins s σ H xs us Q I r h
  obtain ⟨p, n, rfl, hp, q⟩ := h
  obtain ⟨u, rfl, rx⟩ := vals1 r
  obtain rfl : u = .ref p := rx
  rcases hp with ⟨kvs, hp, rfl⟩ | ⟨kvs, hp, rfl⟩
  · obtain ⟨z, hd, ys, rel, dd⟩ := dk_rd I.hok hp
    have hl := rel.length
    refine PySem.call_len_dict hd dd (by rw [← hl]; rw [sizeLine_eq] at z; omega) ?_
    rw [← hl]
    exact ⟨.int ((kvs.length : Nat) : Int), H, I.tok _, ⟨_, rfl⟩, q⟩
  · obtain ⟨z, hd, ys, rel, dd⟩ := dt_rd I.hok hp
    have hl : kvs.length = ys.length := Paired.length rel
    refine PySem.call_len_dictH hd dd (by rw [← hl]; rw [sizeLine_eq] at z; omega) ?_
    rw [← hl]
    exact ⟨.int ((kvs.length : Nat) : Int), H, I.tok _, ⟨_, rfl⟩, q⟩
theorem cf_lenD {K : PySem.W.Frag} : CallF K .val rLenD cLenD := fun G H ds d vs Q e r h q => by
  have key : ∀ {dd : PyData} {v : V}, RepB K G H dd v → cLenD [dd] = some d → ∃ p n, v = .ref p ∧ d = .int (n : Nat) ∧ ((∃ kvs, Rd H p (.dK kvs) ∧ n = kvs.length) ∨ ∃ kvs, Rd H p (.dT kvs) ∧ n = kvs.length) := fun {dd v} r1 h => by
    have kk : ∀ (a : Addr) (ks : List (Key × V)) (es : List (PyData × PyData)), Rd H a (.dK ks) → es.map (·.1) = ks.map (fun p => keyD p.1) → cLenD [.dict es] = some d → ∃ p n, V.ref a = .ref p ∧ d = .int (n : Nat) ∧ ((∃ kvs, Rd H p (.dK kvs) ∧ n = kvs.length) ∨ ∃ kvs, Rd H p (.dT kvs) ∧ n = kvs.length) := fun a ks es rd hk h => by
      unfold cLenD at h
      split at h
      · rename_i z
        cases z
        exact (noneK hk).elim
      · rename_i z
        cases z
        cases h
        exact ⟨a, ks.length, rfl, by rw [len_of_map hk], .inl ⟨ks, rd, rfl⟩⟩
      · cases h
    have tt : ∀ (a : Addr) (ks : List (List Key × V)) (es : List (PyData × PyData)), Rd H a (.dT ks) → es.map (·.1) = ks.map (fun p => keysD p.1) → cLenD [.dict ((.none, .none) :: es)] = some d → ∃ p n, V.ref a = .ref p ∧ d = .int (n : Nat) ∧ ((∃ kvs, Rd H p (.dK kvs) ∧ n = kvs.length) ∨ ∃ kvs, Rd H p (.dT kvs) ∧ n = kvs.length) := fun a ks es rd hk h => by
      cases h
      exact ⟨a, ks.length, rfl, by rw [len_of_map hk], .inr ⟨ks, rd, rfl⟩⟩
    cases r1 with
    | val r1 =>
      cases r1 with
      | dK h1 k ra => exact kk _ _ _ (e.rd (.inr h1)) k h
      | dT h1 k ra => exact tt _ _ _ (e.rd (.inr h1)) k h
      | _ => cases h
    | lst _ _ => cases h
    | dK h1 k ra => exact kk _ _ _ (.inl h1) k h
    | dT h1 k ra => exact tt _ _ _ (.inl h1) k h
  cases ds with
  | nil => cases h
  | cons d1 t =>
    cases t with
    | nil =>
      obtain ⟨v, rfl, r1⟩ := r.one
      obtain ⟨p, n, rfl, rfl, z⟩ := key r1 h
      exact ⟨p, n, rfl, z, q G H _ (Gx.refl e) fun _ => .int _⟩
    | cons d2 t =>
      exfalso
      unfold cLenD at h
      split at h
      · rename_i z; cases z
      · rename_i z; cases z
      · cases h
end
end DV

namespace DV
open PySem L2 PySem.Spec PyProof.Rows PpSet
/-! ### {e for x in xs if .. for y in ys if ..}, of ints -/
/-- the comprehension -/
abbrev SC2 (elt t0 i0 : Expr) (c0 : List Expr) (t1 i1 : Expr) (c1 : List Expr) (sc : Scope) (pos : Pos) : Expr := .SetComp elt [⟨t0, i0, c0, 0⟩, ⟨t1, i1, c1, 0⟩] sc pos
section
variable {elt t0 i0 t1 i1 : Expr} {c0 c1 : List Expr} {sc : Scope} {pos : Pos} {it acc : Value} {env : Env}
theorem turn_o : compTurn (SC2 elt t0 i0 c0 t1 i1 c1 sc pos) 0 it acc env = (do
      standAt i0.pos
      match ← pyNext it with
      | none => pure (.done .next)
      | some x =>
        letOwnedTupleGo t0 it x; assign t0 env x
        let mut good := true
        for c in c0 do
          if good then good ← isTrue c env (eval c env)
        if good then
          let src ← eval i1 env
          standAt i1.pos
          let src ← foldedSetIterable i1 env src
          let _ ← runOwn (.compStart (SC2 elt t0 i0 c0 t1 i1 c1 sc pos) 1 (← holding [src] (pyIter src)) acc env) env
        again (.compLoop (SC2 elt t0 i0 c0 t1 i1 c1 sc pos) 0 it acc env)) := by rfl
theorem turn_i : compTurn (SC2 elt t0 i0 c0 t1 i1 c1 sc pos) 1 it acc env = (do
      standAt i1.pos
      match ← pyNext it with
      | none => pure (.done .next)
      | some x =>
        letOwnedTupleGo t1 it x; assign t1 env x
        let mut good := true
        for c in c1 do
          if good then good ← isTrue c env (eval c env)
        if good then
          (do let y ← eval elt env; standAt elt.pos; let _ ← call (.builtin "set.add") [acc, y])
        again (.compLoop (SC2 elt t0 i0 c0 t1 i1 c1 sc pos) 1 it acc env)) := by rfl
variable {prog : Program} {w : World} {A : Around} {R : Result → Shared → Prop} {s : Shared}
/-- the tests of a clause -/
abbrev testsOf (cs : List Expr) (env : Env) := forIn (m := Sem) cs true fun c r => if r = true then do let ok ← isTrue c env (eval c env); pure (ForInStep.yield ok) else pure (ForInStep.yield r)
abbrev bad (prog : Program) (w : World) (A : Around) (env : Env) (R : Result → Shared → Prop) : Value → Shared → Prop := notedBy (model prog w) A env fun x z => R (.error x) z
theorem loop_o (hs : ∀ x, foldedSetIterable i1 env x = pure x) (I : Nat → Shared → Prop)
    (turn : ∀ n z, I n z → wpAny (model prog w) A (pyNext it) (fun r z1 => match r with
      | none => R (.ok .next) z1
      | some x => wpAny (model prog w) A (letOwnedTupleGo t0 it x) (fun _ z2 => wpAny (model prog w) A (assign t0 env x) (fun _ z3 =>
          wpAny (model prog w) A (testsOf c0 env) (fun ok z4 =>
            if ok = true then wpAny (model prog w) A (eval i1 env) (fun y z5 => wpAny (model prog w) A (pyIter y) (fun jt z6 =>
              codeAny (model prog w) A (.compStart (SC2 elt t0 i0 c0 t1 i1 c1 sc pos) 1 jt acc env) (fun r z7 => match r with
                | .ok _ => ∃ m, m < n ∧ I m z7
                | .error _ => False) z6) (bad prog w A env R) z5) (bad prog w A env R) z4
            else ∃ m, m < n ∧ I m z4) (bad prog w A env R) z3) (bad prog w A env R) z2) (bad prog w A env R) z1) (bad prog w A env R) z) (n : Nat) (h : I n s) :
    codeAny (model prog w) A (.compLoop (SC2 elt t0 i0 c0 t1 i1 c1 sc pos) 0 it acc env) R s := by
  refine codeAny_loop rfl I (fun n z hI => ?_) n h
  show wpAny _ A ((compTurn (SC2 elt t0 i0 c0 t1 i1 c1 sc pos) 0 it acc env).onRaise _) _ _ z
  refine wpAny_noted ?_
  rw [turn_o]
  refine wpAny_bind (wpAny_standAt (wpAny_bind (thn (turn n z hI) fun r z1 k1 => ?_)))
  rcases r with _ | x
  · exact wpAny_pure k1
  refine wpAny_bind (thn k1 fun _ z2 k2 => wpAny_bind (thn k2 fun _ z3 k3 => wpAny_bind (thn k3 fun ok z4 k4 => ?_)))
  rcases ok with _ | _
  · exact wpAny_pure ⟨rfl, k4⟩
  refine wpAny_bind (thn k4 fun y z5 k5 => wpAny_bind (wpAny_standAt (wpAny_bind (wpAny_of_eq (hs y) (wpAny_bind (wpAny_holding (thn k5 fun jt z6 k6 => ?_)))))))
  refine wpAny_bind (wpAny_runOwn ?_)
  rw [Around.mark_none]
  refine codeAny_mono k6 fun r z7 hr => ?_
  rcases r with e | f
  · exact False.elim hr
  · first | exact wpAny_pure ⟨rfl, hr⟩ | exact wpAny_bind (wpAny_pure (wpAny_pure ⟨rfl, hr⟩))
theorem loop_i (I : Nat → Shared → Prop)
    (turn : ∀ n z, I n z → wpAny (model prog w) A (pyNext it) (fun r z1 => match r with
      | none => R (.ok .next) z1
      | some x => wpAny (model prog w) A (letOwnedTupleGo t1 it x) (fun _ z2 => wpAny (model prog w) A (assign t1 env x) (fun _ z3 =>
          wpAny (model prog w) A (testsOf c1 env) (fun ok z4 =>
            if ok = true then wpAny (model prog w) A (eval elt env) (fun y z5 =>
              wpAny (model prog w) A (call (.builtin "set.add") [acc, y]) (fun _ z6 => ∃ m, m < n ∧ I m z6) (bad prog w A env R) z5) (bad prog w A env R) z4
            else ∃ m, m < n ∧ I m z4) (bad prog w A env R) z3) (bad prog w A env R) z2) (bad prog w A env R) z1) (bad prog w A env R) z) (n : Nat) (h : I n s) :
    codeAny (model prog w) A (.compLoop (SC2 elt t0 i0 c0 t1 i1 c1 sc pos) 1 it acc env) R s := by
  refine codeAny_loop rfl I (fun n z hI => ?_) n h
  show wpAny _ A ((compTurn (SC2 elt t0 i0 c0 t1 i1 c1 sc pos) 1 it acc env).onRaise _) _ _ z
  refine wpAny_noted ?_
  rw [turn_i]
  refine wpAny_bind (wpAny_standAt (wpAny_bind (thn (turn n z hI) fun r z1 k1 => ?_)))
  rcases r with _ | x
  · exact wpAny_pure k1
  refine wpAny_bind (thn k1 fun _ z2 k2 => wpAny_bind (thn k2 fun _ z3 k3 => wpAny_bind (thn k3 fun ok z4 k4 => ?_)))
  rcases ok with _ | _
  · exact wpAny_pure ⟨rfl, k4⟩
  exact wpAny_bind (wpAny_bind (thn k4 fun y z5 k5 => wpAny_bind (wpAny_standAt (wpAny_bind (thn k5 fun _ z6 k6 => wpAny_pure (wpAny_pure ⟨rfl, k6⟩))))))
/-- the second clause begins -/
theorem start_i (h0 : codeAny (model prog w) A (.compLoop (SC2 elt t0 i0 c0 t1 i1 c1 sc pos) 1 it acc env) R s)
    (h : wpAny (model prog w) A (pyIter it) (fun jt z => codeAny (model prog w) A (.compLoop (SC2 elt t0 i0 c0 t1 i1 c1 sc pos) 1 jt acc env) R z) (bad prog w A env R) s) :
    codeAny (model prog w) A (.compStart (SC2 elt t0 i0 c0 t1 i1 c1 sc pos) 1 it acc env) R s := by
  refine codeAny_of_tree ?_
  show wpAny _ _ ((compStart (SC2 elt t0 i0 c0 t1 i1 c1 sc pos) 1 it acc env).onRaise _) _ _ s
  refine wpAny_notedAt ?_
  unfold compStart
  show wpAny _ _ (ask >>= _) _ _ s
  refine wpAny_bind (wpAny_askSetting (wpAny_ite ?_))
  split
  · first | exact wpAny_bind (wpAny_pure (wpAny_pure (And.intro rfl h0))) | exact wpAny_pure (And.intro rfl h0)
  · first
      | (refine wpAny_bind (wpAny_rule (wpAny_bind (wpAny_standAt (wpAny_bind (thn h fun jt z k => ?_))))); exact wpAny_pure ⟨rfl, k⟩)
      | (refine wpAny_bind (wpAny_rule ?_); show wpAny _ _ (standAt i1.pos >>= _) _ _ s; refine wpAny_bind (wpAny_standAt (wpAny_bind (thn h fun jt z k => ?_))); exact wpAny_pure ⟨rfl, k⟩)
end
/-! ### as a rule -/
section
variable {X : Cx}
/-- for every block that the comprehension may run in -/
def EvB (X : Cx) (sc : Scope) (P : Cx → Prop) : Prop := ∀ (s : Shared) (H : Hp) (C : Addr) (cl : List (PySem.Str × Addr)) (fp : List Addr), P (X.blk s H sc (compEnvC sc cl C X.env) fp)
/-- a turn of a source with Nx behind it: stop, or go on to W (i + 1) -/
def tTurn (J : It) (W : Nat → Nat → Hp → Prop) (done : Hp → Prop) (body : V → Hp → (Hp → Prop) → Prop) : Prop := ∀ i m H, W i m H →
  (J.stop i H ∧ done H) ∨ (J.go i H ∧ ∃ Nx : Hp → Prop, (∀ H', Nx H' → ∃ m', m' < m ∧ W (i + 1) m' H') ∧ ∀ x H', J.yld i H x H' → body x H' Nx)
def tSc2 (w : World) (wi : TI) (g : TG) (tt : TT) (wi1 : TI) (g1 : TG) (tt1 : TT) (te : TE) (vs vs1 : List Nat) : TE := fun σ H Q => wi σ H fun J H1 => ∀ D, H1 D = none → ∃ W : Nat → Nat → Hp → Prop, (∃ m, W 0 m (upd H1 D (SetO w D (fun _ => false) 0))) ∧
  tTurn J W (Q (.ref D)) fun x H' Nx => g x (wipe σ vs) H' fun σ2 H2 => wipe σ2 vs = wipe σ vs ∧ tt σ2 H2 fun b H3 =>
    if b = true then wi1 σ2 H3 fun J1 H4 => ∃ W1 : Nat → Nat → Hp → Prop, (∃ m, W1 0 m H4) ∧ tTurn J1 W1 Nx fun y H5 Nx1 => g1 y (wipe σ2 vs1) H5 fun σ3 H6 => wipe σ3 vs1 = wipe σ2 vs1 ∧ tt1 σ3 H6 fun b H7 =>
        if b = true then te σ3 H7 fun y H8 => ∃ (k : Int) (S : Int → Bool) (n : Nat), y = .int k ∧ H8 D = some (SetO w D S n) ∧ n + 1 < scanBound ∧ Nx1 (upd H8 D (SetO w D (fun j => S j || decide (j = k)) (if S k = true then n else n + 1))) else Nx1 H7
    else Nx H3
theorem setI_ok {pins : List (Addr × Obj)} {σ : L2.St} {H : Hp} {s : Shared} {E : Value → Shared → Prop} {D : Addr} {S : Int → Bool} {n : Nat} {k : Int} {tk : Tok} {Q : Value → Shared → Prop} (I : Inv X pins σ H s) (hD : H D = some (SetO X.w D S n)) (room : n + 1 < scanBound)
    (h : ∀ z, Inv X pins σ (upd H D (SetO X.w D (fun j => S j || decide (j = k)) (if S k = true then n else n + 1))) z → Q .none z) : wpAny (model X.prog X.w) X.A (call (.builtin "set.add") [.ref D, .int k tk]) Q E s := by
  refine setR_add (setO_get I hD) room fun h' sb new => ?_
  obtain ⟨ob, _, _, _, eo, _⟩ := id new
  exact h _ (I.write (e := D) (t' := s.toks + 1) (by rw [hD]; trivial) (.inl rfl) (fun b u hb hu => (sb.2 b hb).trans hu) ⟨ob, eo⟩ (setO_new new))
theorem sc2_core {pins : List (Addr × Obj)} {s : Shared} {σ : L2.St} {H : Hp} {Q : VK} {elt t0 i0 t1 i1 : Expr} {c0 c1 : List Expr} {sc : Scope} {own : List (PySem.Str × Nat)} {vs1 : List Nat} {pos pos' : Pos} {wi wi1 : TI} {g g1 : TG} {tt tt1 : TT} {te : TE} {use : Option (Value → Sem Unit)} {Qf : Value → Shared → Prop}
    (hc : X.calm = true) (hN : X.N.Nodup) (I : Inv X pins σ H s) (hi : PI X t0 i0 wi) (ok : BlkOk X.N X.env.scope sc own) (hv : ∀ i ∈ vs1, i ∈ own.map (·.2))
    (hg : EvB X sc fun Y => PG Y t0 g) (ht : EvB X sc fun Y => PTs Y c0 tt) (he : EvB X sc fun Y => PE Y elt te) (hs : ∀ x, foldedSetIterable i0 X.env x = pure x)
    (hi1 : EvB X sc fun Y => PI Y t1 i1 wi1) (hg1 : EvB X sc fun Y => PG Y t1 g1) (ht1 : EvB X sc fun Y => PTs Y c1 tt1) (hs1 : ∀ env x, foldedSetIterable i1 env x = pure x)
    (h : tSc2 X.w wi g tt wi1 g1 tt1 te (own.map (·.2)) vs1 σ H Q)
    (out : ∀ D C z m H', Inv X pins σ H' z → Q (.ref D) H' → z.heap.Ns C m → FpOk X pins H' C → compPost (model X.prog X.w) X.A X.xe use Qf (.ref D) C (.ok .next) z) :
    wpAny (model X.prog X.w) X.A (comprehension (SC2 elt t0 i0 c0 t1 i1 c1 sc pos) sc X.env pos' (newSet (.type "set")) false (eval i0 X.env) use) Qf X.xe s := by
  refine wpAny_comprehension_free (use := use) rfl hs (closure_ok fun y hy e => (ok.free y hy e).elim (fun k => I.ok.has _ (.inl k)) fun k => I.ok.has _ (.inr k)) ok.kind (fun y hy e => by rw [ok.uniq y hy, e])
    (thn (hi.run pins s σ H _ I h) fun xv z1 hx => thn hx fun itv z2 h2 => ?_)
  obtain ⟨it, fp, tn, J, H2, e, I2, T, st2, f2, q⟩ := h2
  subst e
  refine newSet_ok (newEnv_comp ?_)
  generalize hD : z2.heap.objs.size = D
  obtain ⟨W, ⟨m0, w0⟩, turn⟩ := q D (I2.hok.fresh (Nat.le_of_eq hD))
  generalize hz3 : ({ z2 with heap := z2.heap.push { cls := .type "set", dict := none, data := .set #[] 0 (.fresh 0 0 (!X.w.params.followText "set-order")) } } : Shared) = z3
  have hh3 : z3.heap = z2.heap.push { cls := .type "set", dict := none, data := .set #[] 0 (.fresh 0 0 (!X.w.params.followText "set-order")) } := by rw [← hz3]
  generalize hH3 : upd H2 D (SetO X.w D (fun _ => false) 0) = H3 at w0
  have I3 : Inv X pins σ H3 z3 := by
    rw [← hH3, ← hz3]
    refine I2.laid (t' := z2.toks) (fun b o e => Heap.get?_push_of_some _ e) (Nat.le_of_eq hD) ?_
    rw [← hD]; exact setO_new (setR_fresh X.w)
  have keep3 : ∀ b o, z2.heap.get? b = some o → z3.heap.get? b = some o := fun b o e => by rw [hh3]; exact Heap.get?_push_of_some _ e
  have f3 : ∀ b ∈ fp, FpOk X pins H3 b ∧ b < z3.heap.objs.size := fun b hb => by
    obtain ⟨o, eo, _⟩ := T.obj _ _ st2 b hb
    have lt := Heap.lt_size eo
    rw [hh3, Heap.size_push, ← hH3]
    refine ⟨⟨?_, (f2 b hb).2⟩, Nat.lt_succ_of_lt lt⟩
    rw [upd_ne (by rw [← hD]; exact Nat.ne_of_lt lt)]; exact (f2 b hb).1
  have I4 := block_start I3 ok hN f3
  generalize hcl : cellsFrom (z3.heap.objs.size + 1) sc.names (cloFrom X.env.cells sc.names []) = cl at I4
  have pg := hg z3 H3 z3.heap.objs.size cl fp
  have pt := ht z3 H3 z3.heap.objs.size cl fp
  have pe := he z3 H3 z3.heap.objs.size cl fp
  have qi := hi1 z3 H3 z3.heap.objs.size cl fp
  have qg := hg1 z3 H3 z3.heap.objs.size cl fp
  have qt := ht1 z3 H3 z3.heap.objs.size cl fp
  show codeAny _ _ (.compStart (SC2 elt t0 i0 c0 t1 i1 c1 sc pos) 0 (.ref it) (.ref D) (compEnvC sc cl z3.heap.objs.size X.env)) (compPost (model X.prog X.w) X.A X.xe use Qf (.ref D) z3.heap.objs.size) _
  generalize hce : compEnvC sc cl z3.heap.objs.size X.env = ce at I4 pg pt pe qi qg qt
  have cL : ce.locals = z3.heap.objs.size := by subst hce; rfl
  generalize hz4 : ({ z3 with heap := pushCells (z3.heap.push { cls := .type "dict", data := .dict #[] }) sc.names } : Shared) = z4 at I4
  have st4 : tn 0 z4.heap := T.keep _ _ _ (T.keep _ _ _ st2 fun b _ o e => keep3 b o e) fun b _ o e => by rw [← hz4]; exact pushCells_keeps _ _ _ _ (Heap.get?_push_of_some _ e)
  have stat : ∀ {τ : L2.St} {H' : Hp} {z : Shared}, Inv (X.blk z3 H3 sc ce fp) [] τ H' z → (∀ b ∈ fp, H' b = none) → ∀ b ∈ fp, FpOk (X.blk z3 H3 sc ce fp) [] H' b := fun {τ H' z} I' hn b hb =>
    ⟨hn b hb, (I'.ok.exf b hb).1, I'.ok.exfs b hb, .inl hb, fun x c e => (I'.ok.exf b hb).2 x c e, fun p hp => absurd (show p ∈ ([] : List (Addr × Obj)) ++ [] from hp) (by simp)⟩
  -- what holds between two turns of the outer loop
  let Bt : Nat → Shared → Prop := fun n z => ∃ i H', Inv (X.blk z3 H3 sc ce fp) [] (wipe σ (own.map (·.2))) H' z ∧ tn i z.heap ∧ (∀ b ∈ fp, H' b = none) ∧ W i n H'
  have whole : codeAny (model X.prog X.w) X.A (.compLoop (SC2 elt t0 i0 c0 t1 i1 c1 sc pos) 0 (.ref it) (.ref D) ce) (compPost (model X.prog X.w) X.A X.xe use Qf (.ref D) z3.heap.objs.size) z4 := by
    refine loop_o (hs1 ce) Bt ?_ m0 ⟨0, H3, I4, st4, fun b hb => (f3 b hb).1.1, w0⟩
    rintro n z5 ⟨i, H5, I5, st5, n5, w5⟩
    rcases turn i n H5 w5 with ⟨stop, qq⟩ | ⟨go, Nx, hNx, step⟩
    · refine thnF (T.done (X.blk z3 H3 sc ce fp) rfl rfl rfl hc i [] z5 _ H5 (fun _ _ => False) I5 (stat I5 n5) st5 stop) ?_
      rintro r z6 ⟨hr, I6⟩
      subst hr
      obtain ⟨m, hn, _⟩ := I6.loc
      have hn : z6.heap.Ns ce.locals m := hn
      have nC : H5 ce.locals = none := I6.free
      rw [cL] at hn nC
      have I7 : Inv X pins σ H5 z6 := I3.call' (ch := fp) I6.os I6.base I6.hok I6.bare fun b hb => by
        have z := (f3 b hb).1
        exact ⟨z.2.2.2.1, z.2.1, z.2.2.2.2.1, z.2.2.2.2.2⟩
      exact out D z3.heap.objs.size z6 m H5 I7 qq hn (I3.fpOk (Nat.le_refl _) nC)
    refine thnF (T.item (X.blk z3 H3 sc ce fp) rfl rfl rfl hc i [] z5 _ H5 (fun _ _ => False) I5 (stat I5 n5) st5 go) ?_
    rintro r z6 ⟨u, hr, h6⟩
    subst hr
    refine thnF h6 fun _ z7 ⟨x, H7, I7, r7, y7, st7, n7⟩ => ?_
    refine thnF (pg.run _ z7 _ H7 x u _ (I7.pinned (stat I7 n7) (T.obj _ _ st7)) r7 (step x H7 y7)) fun _ z8 ⟨σ8, H8, I8, hw8, q8⟩ => ?_
    refine thnF (pt.run _ z8 σ8 H8 _ I8 q8) fun b z9 ⟨H9, I9, q9⟩ => ?_
    have back : ∀ {τ : L2.St} {z : Shared} {H' : Hp}, Inv (X.blk z3 H3 sc ce fp) ([] ++ pinsAt fp z7.heap) τ H' z → (wipe σ (own.map (·.2))).length = τ.length → (∀ (j : Nat) v, (wipe σ (own.map (·.2)))[j]? = some (some v) → τ[j]? = some (some v)) → Nx H' → ∃ m, m < n ∧ Bt m z := fun {τ z H'} I' hl hk nx => by
      obtain ⟨m', hm, w'⟩ := hNx H' nx
      have pin' : ∀ b ∈ fp, ∀ o, z7.heap.get? b = some o → z.heap.get? b = some o ∧ H' b = none := fun b hb o e => by
        have y := I'.pin (b, o) (List.mem_append_right _ (List.mem_append_right _ (mem_pinsAt hb e)))
        exact ⟨y.1, y.2.1⟩
      refine ⟨m', hm, i + 1, H', (I'.unpinned (pins := [])).weak hl hk, T.keep _ _ _ st7 fun b hb o e => (pin' b hb o e).1, fun b hb => ?_, w'⟩
      obtain ⟨o, e, _⟩ := T.obj _ _ st7 b hb
      exact (pin' b hb o e).2
    have hl8 : (wipe σ (own.map (·.2))).length = σ8.length := by rw [← hw8, wipe_length]
    have hk8 : ∀ (j : Nat) v, (wipe σ (own.map (·.2)))[j]? = some (some v) → σ8[j]? = some (some v) ∧ j ∉ own.map (·.2) := fun j v e => wipe_some (by rw [hw8]; exact e)
    rcases b with _ | _
    · rw [if_neg Bool.false_ne_true] at q9 ⊢
      exact back I9 hl8 (fun j v e => (hk8 j v e).1) q9
    rw [if_pos rfl] at q9 ⊢
    refine thnF (qi.run _ z9 σ8 H9 _ I9 q9) fun yv zA hx => thnF hx fun jtv zB hB => ?_
    obtain ⟨jt, fp1, tn1, J1, HB, e1, IB, T1, stB, fB, W1, ⟨m1, w1⟩, turn1⟩ := hB
    subst e1
    have inner : codeAny (model X.prog X.w) X.A (.compLoop (SC2 elt t0 i0 c0 t1 i1 c1 sc pos) 1 (.ref jt) (.ref D) ce) (fun r z => match r with
          | .ok _ => ∃ m, m < n ∧ Bt m z
          | .error _ => False) zB := by
      refine loop_i (fun k z => ∃ j H', Inv (X.blk z3 H3 sc ce fp) ([] ++ pinsAt fp z7.heap) (wipe σ8 vs1) H' z ∧ tn1 j z.heap ∧ (∀ b ∈ fp1, H' b = none) ∧ W1 j k H') ?_ m1 ⟨0, HB, IB.weak (wipe_length _ _) (fun j v e => (wipe_some e).1), stB, fun b hb => (fB b hb).1, w1⟩
      rintro k zC ⟨j, HC, IC, stC, nC, wC⟩
      have fC : ∀ b ∈ fp1, FpOk (X.blk z3 H3 sc ce fp) ([] ++ pinsAt fp z7.heap) HC b := fun b hb => ⟨nC b hb, (fB b hb).2⟩
      rcases turn1 j k HC wC with ⟨stop1, nx1⟩ | ⟨go1, Nx1, hNx1, step1⟩
      · refine thnF (T1.done (X.blk z3 H3 sc ce fp) rfl rfl rfl hc j _ zC (wipe σ8 vs1) HC (fun _ _ => False) IC fC stC stop1) ?_
        rintro r zD ⟨hr, ID⟩
        subst hr
        refine back ID (hl8.trans (wipe_length σ8 vs1).symm) (fun i v e => ?_) nx1
        rw [wipe_out fun z => (hk8 i v e).2 (hv i z)]
        exact (hk8 i v e).1
      refine thnF (T1.item (X.blk z3 H3 sc ce fp) rfl rfl rfl hc j _ zC (wipe σ8 vs1) HC (fun _ _ => False) IC fC stC go1) ?_
      rintro r zD ⟨u1, hr, hD1⟩
      subst hr
      refine thnF hD1 fun _ zE ⟨x1, HE, IE, rE, yE, stE, nE⟩ => ?_
      refine thnF (qg.run _ zE (wipe σ8 vs1) HE x1 u1 _ (IE.pinned (fun b hb => ⟨nE b hb, (fB b hb).2⟩) (T1.obj _ _ stE)) rE (step1 x1 HE yE)) fun _ zF ⟨σF, HF, IF, hwF, qF⟩ => ?_
      refine thnF (qt.run _ zF σF HF _ IF qF) fun b1 zG ⟨HG, IG, qG⟩ => ?_
      have back1 : ∀ {z : Shared} {H' : Hp}, Inv (X.blk z3 H3 sc ce fp) (([] ++ pinsAt fp z7.heap) ++ pinsAt fp1 zE.heap) σF H' z → Nx1 H' → ∃ m, m < k ∧ ∃ j H', Inv (X.blk z3 H3 sc ce fp) ([] ++ pinsAt fp z7.heap) (wipe σ8 vs1) H' z ∧ tn1 j z.heap ∧ (∀ b ∈ fp1, H' b = none) ∧ W1 j m H' := fun {z H'} I' nx => by
        obtain ⟨m', hm, w'⟩ := hNx1 H' nx
        have pin' : ∀ b ∈ fp1, ∀ o, zE.heap.get? b = some o → z.heap.get? b = some o ∧ H' b = none := fun b hb o e => by
          have y := I'.pin (b, o) (List.mem_append_right _ (List.mem_append_right _ (mem_pinsAt hb e)))
          exact ⟨y.1, y.2.1⟩
        refine ⟨m', hm, j + 1, H', I'.unpinned.weak (by rw [← hwF, wipe_length]) (fun i v e => (wipe_some (by rw [hwF]; exact e)).1), T1.keep _ _ _ stE fun b hb o e => (pin' b hb o e).1, fun b hb => ?_, w'⟩
        obtain ⟨o, e, _⟩ := T1.obj _ _ stE b hb
        exact (pin' b hb o e).2
      rcases b1 with _ | _
      · rw [if_neg Bool.false_ne_true] at qG ⊢
        exact back1 IG qG
      rw [if_pos rfl] at qG ⊢
      refine thnF (pe.run _ zG σF HG _ IG qG) fun yv zH ⟨yV, HH, IH, rH, kk, S, nn, ey, hDH, hzH, nx⟩ => ?_
      subst ey
      obtain ⟨tk, rfl⟩ := rH
      exact setI_ok (X := X.blk z3 H3 sc ce fp) IH hDH hzH fun z' I' => back1 I' nx
    exact start_i inner (T1.self X.A 0 _ _ _ stB inner)
  exact codeAny_compStart_set whole (T.self X.A 0 _ _ _ st4 whole)
theorem pe_sc2 {elt t0 i0 t1 i1 : Expr} {c0 c1 : List Expr} {sc : Scope} {own : List (PySem.Str × Nat)} {vs1 : List Nat} {pos : Pos} {wi wi1 : TI} {g g1 : TG} {tt tt1 : TT} {te : TE} (hc : X.calm = true) (hN : X.N.Nodup) (hi : PI X t0 i0 wi) (ok : BlkOk X.N X.env.scope sc own) (hv : ∀ i ∈ vs1, i ∈ own.map (·.2))
    (hg : EvB X sc fun Y => PG Y t0 g) (ht : EvB X sc fun Y => PTs Y c0 tt) (hi1 : EvB X sc fun Y => PI Y t1 i1 wi1) (hg1 : EvB X sc fun Y => PG Y t1 g1) (ht1 : EvB X sc fun Y => PTs Y c1 tt1) (he : EvB X sc fun Y => PE Y elt te)
    (hs : ∀ x, foldedSetIterable i0 X.env x = pure x) (hs1 : ∀ env x, foldedSetIterable i1 env x = pure x) : PE X (SC2 elt t0 i0 c0 t1 i1 c1 sc pos) (tSc2 X.w wi g tt wi1 g1 tt1 te (own.map (·.2)) vs1) :=
  ⟨fun pins s σ H Q I h => by
    rw [eval_SetComp]
    refine sc2_core hc hN I hi ok hv hg ht he hs hi1 hg1 ht1 hs1 h fun D C z m H' I' q hn f => ⟨m, hn, fun h'' sb => ?_⟩
    obtain ⟨f0, f1, f2, f3, f4, f5⟩ := f
    exact ⟨.ref D, H', I'.turned (t' := z.toks) (fun b o hb e => (sb.2 b hb).trans e) f0 f1 f3 f4 f5, rfl, q⟩⟩
end
end DV

namespace DV
open PySem L2 PySem.Spec PyProof.Rows
/-! ### two fors: on data -/
def lc2Go (g : SG) (t : SB) (fi1 : SI) (g1 : SG) (t1 : SB) (e : SE) (vs1 : List Nat) (ρ : Rho) : List PyData → Option (List PyData)
  | [] => some []
  | d :: ds => (g d ρ).bind fun ρ1 => (t ρ1).bind fun k => if k = true then (fi1 ρ1).bind fun ds1 => (lcGo g1 t1 e (wipeR ρ1 vs1) ds1).bind fun ys => (lc2Go g t fi1 g1 t1 e vs1 ρ ds).bind fun zs => some (ys ++ zs) else lc2Go g t fi1 g1 t1 e vs1 ρ ds
def eLc2 (fi : SI) (g : SG) (t : SB) (fi1 : SI) (g1 : SG) (t1 : SB) (e : SE) (vs vs1 : List Nat) : SE := fun ρ => (fi ρ).bind fun ds => (lc2Go g t fi1 g1 t1 e vs1 (wipeR ρ vs) ds).bind fun ys => if ys.length ≤ sizeLine then some (.list ys) else none
/-- a target makes no slot an own one -/
class GNo (g : SG) : Prop where
  no : ∀ d ρ ρ' (i : Nat) e, g d ρ = some ρ' → ρ'[i]? = some (.own e) → ρ[i]? = some (.own e)
class GsNo (g : SGs) : Prop where
  no : ∀ d ρ ρ' (i : Nat) e, g d ρ = some ρ' → ρ'[i]? = some (.own e) → ρ[i]? = some (.own e)
theorem set_no {ρ : Rho} {k i : Nat} {t : Slot} {e : PyData} (ht : ∀ d, t ≠ .own d) (h : (ρ.set k t)[i]? = some (.own e)) : ρ[i]? = some (.own e) ∧ (k < ρ.length → i ≠ k) := by
  by_cases z : k = i
  · subst z
    by_cases hl : k < ρ.length
    · rw [List.getElem?_set_self hl] at h
      exact absurd (Option.some.inj h) (ht e)
    · rw [List.set_eq_of_length_le (by omega)] at h
      exact ⟨h, fun y => absurd y hl⟩
  · rw [List.getElem?_set_ne z] at h
    exact ⟨h, fun _ y => z y.symm⟩
instance (k : Nat) : GNo (gV k) where
  no := fun d ρ ρ' i e h h2 => by
    obtain ⟨_, rfl⟩ := if_some h
    exact (set_no (fun _ z => by cases z) h2).1
instance : GsNo gsNil where
  no := fun d ρ ρ' i e h h2 => by
    unfold gsNil at h
    split at h
    · cases h; exact h2
    · cases h
instance (g : SG) (r : SGs) [a : GNo g] [b : GsNo r] : GsNo (gsCons g r) where
  no := fun d ρ ρ' i e h h2 => by
    unfold gsCons at h
    split at h
    · obtain ⟨ρ1, e1, e2⟩ := bind_some h
      exact a.no _ _ _ _ _ e1 (b.no _ _ _ _ _ e2 h2)
    · cases h
instance (n : Nat) (r : SGs) [b : GsNo r] : GNo (gT n r) where
  no := fun d ρ ρ' i e h h2 => by
    unfold gT at h
    split at h
    · exact b.no _ _ _ _ _ (ite_some h).2 h2
    · cases h
theorem wipeR_no {ρ : Rho} {i : Nat} {e : PyData} : ∀ {vs : List Nat}, (wipeR ρ vs)[i]? = some (.own e) → ρ[i]? = some (.own e) ∧ i ∉ vs
  | [], h => ⟨h, by simp⟩
  | v :: vs, h => by
    obtain ⟨h1, h2⟩ := set_no (fun _ z => by cases z) h
    obtain ⟨h3, h4⟩ := wipeR_no h1
    refine ⟨h3, fun z => ?_⟩
    rcases List.mem_cons.mp z with rfl | z
    · exact h2 (by have := (List.getElem?_eq_some_iff.mp h1).1; exact this) rfl
    · exact h4 z
section
variable {K : PySem.W.Frag} {G0 : Fr} {H0 G H G' H' : Hp} {ρ ρ1 : Rho} {σ σ2 : L2.St} {D : Addr} {o : HO}
/-- no slot owns D -/
def NoD (D : Addr) (ρ : Rho) (σ : L2.St) : Prop := ∀ (i : Nat) d, ρ[i]? = some (.own d) → σ[i]? ≠ some (some (.ref D))
theorem Sok.noD (s : Sok K G0 H0 G ρ σ H) (h : H D = none) : NoD D ρ σ := fun i d hi e => by
  obtain ⟨a, ha, _, _, ow⟩ := s.own hi
  rw [e] at ha; cases ha
  obtain ⟨u, hu⟩ := ow.there
  rw [h] at hu; cases hu
theorem NoD.wipe (n : NoD D ρ σ) (vs : List Nat) : NoD D (wipeR ρ vs) (L2.wipe σ vs) := fun i d hi e => by
  obtain ⟨h1, h2⟩ := wipeR_no hi
  rw [wipe_out h2] at e
  exact n i d h1 e
theorem NoD.tgt {g : SG} [a : GNo g] {vs : List Nat} {d : PyData} (n : NoD D (wipeR ρ vs) σ) (e : g d (wipeR ρ vs) = some ρ1) (k : ∀ i, i ∉ vs → σ2[i]? = σ[i]?) : NoD D ρ1 σ2 := fun i x hi y => by
  have h1 := a.no _ _ _ _ _ e hi
  rw [k i (wipeR_no h1).2] at y
  exact n i x h1 y
/-- something that no slot owns changes -/
theorem Sok.side (s : Sok K G0 H0 G ρ σ H) (n : NoD D ρ σ) (h0 : H0 D = none) (g : G D = none) : Sok K G0 H0 G ρ σ (upd H D o) := by
  refine ⟨⟨s.gx.g, s.gx.h.mut h0, s.gx.gh.mut g, s.gx.nw⟩, s.len, fun i t hi => ?_, s.apart, s.pins, s.base, s.wf⟩
  have q := s.slot i t hi
  generalize e : σ[i]?.getD none = w at q
  cases q with
  | un => exact .un
  | val h => exact .val h
  | bor h => exact .bor h
  | scr h => exact .scr h
  | pin => exact .pin
  | st h => exact .st h
  | @own d a k1 k2 k3 =>
    have ne : a ≠ D := fun z => n i d hi (by rw [getD_some e, z])
    exact .own k1 k2 (k3.mono (Ex.refl _) (upd_ne ne))
/-- what is gathered at D -/
structure Gath (K : PySem.W.Frag) (D : Addr) (ys : List PyData) (add : V → Hp → (Hp → Prop) → Prop) (Ac : Hp → List PyData → HO → Prop) : Prop where
  mono : ∀ {G G' : Hp} {l : List PyData} {o : HO}, Ex G G' → Ac G l o → Ac G' l o
  nf : ∀ {G : Hp} {l : List PyData} {o : HO}, Ac G l o → ¬ Fresh (some o)
  put : ∀ {G H : Hp} {l r : List PyData} {y : PyData} {v : V} {o : HO} {Nx : Hp → Prop}, ys = l ++ y :: r → Ac G l o → H D = some o → Rep K G y v → (∀ o', Ac G (l ++ [y]) o' → Nx (upd H D o')) → add v H Nx
theorem stayD {Gi Hi : Hp} (nf : ¬ Fresh (some o)) (gD : Gi D = none) (eD : Hi D = some o) (gx : Gx Gi Hi G' H') : G' D = none ∧ H' D = some o := by
  refine ⟨?_, gx.h _ _ eD⟩
  cases z : G' D with
  | none => rfl
  | some u =>
    rcases gx.nw D (by rw [z]; simp) with y | y
    · exact absurd gD y
    · rw [eD] at y; exact absurd y nf
theorem Gx.side {Gb Hb Gi Hi : Hp} (gx : Gx Gb Hb Gi Hi) (h0 : Hb D = none) (g : Gi D = none) : Gx Gb Hb Gi (upd Hi D o) := ⟨gx.g, gx.h.mut h0, gx.gh.mut g, gx.nw⟩
variable {g g1 : SG} {t t1 : SB} {f : SE} {fi1 : SI} {vs vs1 : List Nat} {J : It} {ds ys : List PyData} {add : V → Hp → (Hp → Prop) → Prop} {Ac : Hp → List PyData → HO → Prop}
/-- the inner loop -/
theorem loop_in {Gb Hb : Hp} {pre own post : List PyData} {Nx : Hp → Prop} (A : Gath K D ys add Ac) (gb : Gx Gb Hb G H) (bD : Hb D = none) (s : Sok K G0 H0 G ρ σ H) (n : NoD D ρ σ) [GNo g1] (w : WalkD K H0 G J ds) (hh : H0 D = none)
    (hys : lcGo g1 t1 f (wipeR ρ vs1) ds = some own) (ey : ys = pre ++ own ++ post) (gD : G D = none) (eD : H D = some o) (ac : Ac G pre o)
    (q : ∀ G' H' o', Gx Gb Hb G' H' → G' D = none → H' D = some o' → Ac G' (pre ++ own) o' → Nx H') :
    ∃ W1 : Nat → Nat → Hp → Prop, (∃ m, W1 0 m H) ∧ tTurn J W1 Nx fun y H5 Nx1 => tGw K vs1 g1 y (L2.wipe σ vs1) H5 fun σ3 H6 => L2.wipe σ3 vs1 = L2.wipe σ vs1 ∧ tT K t1 σ3 H6 fun b H7 => if b = true then tE K .val f σ3 H7 fun y H8 => add y H8 Nx1 else Nx1 H7 := by
  let St (i : Nat) (Hi : Hp) : Prop := ∃ Gi a rest oi, Gx Gb Hb Gi Hi ∧ Ex G Gi ∧ Sok K G0 H0 Gi ρ σ Hi ∧ Gi D = none ∧ Hi D = some oi ∧ Ac Gi (pre ++ a) oi ∧ own = a ++ rest ∧ i ≤ ds.length ∧ lcGo g1 t1 f (wipeR ρ vs1) (ds.drop i) = some rest
  refine ⟨fun i m Hi => m = ds.length - i ∧ St i Hi, ⟨_, rfl, G, [], own, o, gb, Ex.refl _, s, gD, eD, by rw [List.append_nil]; exact ac, rfl, Nat.zero_le _, hys⟩, ?_⟩
  rintro i m Hi ⟨rfl, Gi, a, rest, oi, gx, eg, si, gDi, eDi, aci, eo, hi, hr⟩
  by_cases hlt : i < ds.length
  · refine .inr ⟨w.goes i Gi Hi hlt eg si.gx.gh si.gx.h, St (i + 1), fun H' p => ⟨_, by omega, rfl, p⟩, fun x H' hy => ?_⟩
    have hd := List.getElem?_eq_getElem hlt
    obtain ⟨G3, gx3, rx⟩ := w.yields i _ Gi Hi x H' hd eg si.gx.gh si.gx.h hy
    rw [List.drop_eq_getElem_cons hlt] at hr
    obtain ⟨ρ1, e1, hr⟩ := bind_some hr
    obtain ⟨k, e2, hr⟩ := bind_some hr
    have s3 := (si.wipe vs1).gx' gx3
    refine ⟨G0, H0, G3, _, _, ρ1, s3, rx, e1, fun σ2 l2 k2 s2 => ⟨?_, ?_⟩⟩
    · rw [wipe_eq vs1 (L2.wipe σ vs1) σ2 l2 k2]
      exact wipe_eq vs1 σ (L2.wipe σ vs1) (wipe_length _ _) fun j hj => wipe_out hj
    · refine ⟨G0, H0, G3, ρ1, k, s2, e2, fun G4 H4 gx4 => ?_⟩
      have gx34 := gx3.trans gx4
      obtain ⟨d1, d2⟩ := stayD (A.nf aci) gDi eDi gx34
      cases k with
      | false => exact iteF ⟨G4, a, rest, oi, gx.trans gx34, eg.trans gx34.g, si.gx' gx34, d1, d2, A.mono gx34.g aci, eo, hlt, hr⟩
      | true =>
        refine iteT ?_
        obtain ⟨y, e3, hr⟩ := bind_some (show _ = _ from hr)
        obtain ⟨r2, e4, hr⟩ := bind_some hr
        cases hr
        refine ⟨G0, H0, G4, ρ1, y, s2.gx' gx4, e3, fun G5 H5 v gx5 r5 => ?_⟩
        have gx35 := gx34.trans gx5
        obtain ⟨n1, n2⟩ := stayD (A.nf aci) gDi eDi gx35
        refine A.put (l := pre ++ a) (r := r2 ++ post) (by rw [ey, eo]; simp) (A.mono gx35.g aci) n2 r5 fun o' ac' => ?_
        refine ⟨G5, a ++ [y], r2, o', (gx.trans gx35).side bD n1, eg.trans gx35.g, (si.gx' gx35).side n hh n1, n1, upd_same, by rw [← List.append_assoc]; exact ac', by rw [eo]; simp, hlt, e4⟩
  · have ei : i = ds.length := by omega
    subst ei
    rw [List.drop_length] at hr
    cases hr
    refine .inl ⟨w.stops Gi Hi eg si.gx.gh si.gx.h, q Gi Hi oi gx gDi eDi ?_⟩
    rw [eo, List.append_nil]; exact aci
theorem loop_out {Q : V → Hp → Prop} [GNo g] [GNo g1] (A : Gath K D ys add Ac) (s : Sok K G0 H0 G ρ σ H) (w : WalkD K H G J ds) (hys : lc2Go g t fi1 g1 t1 f vs1 (wipeR ρ vs) ds = some ys) (hD : H D = none) (a0 : Ac G [] o)
    (q : ∀ G' H' o', Gx G H G' H' → G' D = none → H' D = some o' → Ac G' ys o' → Q (.ref D) H') :
    ∃ W : Nat → Nat → Hp → Prop, (∃ m, W 0 m (upd H D o)) ∧ tTurn J W (Q (.ref D)) fun x H' Nx => tGw K vs g x (L2.wipe σ vs) H' fun σ2 H2 => L2.wipe σ2 vs = L2.wipe σ vs ∧ tT K t σ2 H2 fun b H3 =>
      if b = true then tI K false fi1 σ2 H3 fun J1 H4 => ∃ W1 : Nat → Nat → Hp → Prop, (∃ m, W1 0 m H4) ∧ tTurn J1 W1 Nx fun y H5 Nx1 => tGw K vs1 g1 y (L2.wipe σ2 vs1) H5 fun σ3 H6 => L2.wipe σ3 vs1 = L2.wipe σ2 vs1 ∧ tT K t1 σ3 H6 fun b H7 => if b = true then tE K .val f σ3 H7 fun y H8 => add y H8 Nx1 else Nx1 H7 else Nx H3 := by
  have h0D : H0 D = none := s.gx.h.back hD
  let St (i : Nat) (Hi : Hp) : Prop := ∃ Gi a rest oi, Gx G H Gi Hi ∧ Gi D = none ∧ Hi D = some oi ∧ Ac Gi a oi ∧ ys = a ++ rest ∧ i ≤ ds.length ∧ lc2Go g t fi1 g1 t1 f vs1 (wipeR ρ vs) (ds.drop i) = some rest
  refine ⟨fun i m Hi => m = ds.length - i ∧ St i Hi, ⟨_, rfl, G, [], ys, o, Gx.mine s.gx.gh hD, s.gx.gh.back hD, upd_same, a0, rfl, Nat.zero_le _, hys⟩, ?_⟩
  rintro i m Hi ⟨rfl, Gi, a, rest, oi, gx, gD, eD, ac, ey, hi, hr⟩
  have si := s.gx' gx
  by_cases hlt : i < ds.length
  · refine .inr ⟨w.goes i Gi Hi hlt gx.g gx.gh gx.h, St (i + 1), fun H' p => ⟨_, by omega, rfl, p⟩, fun x H' hy => ?_⟩
    have hd := List.getElem?_eq_getElem hlt
    obtain ⟨G3, gx3, rx⟩ := w.yields i _ Gi Hi x H' hd gx.g gx.gh gx.h hy
    rw [List.drop_eq_getElem_cons hlt] at hr
    obtain ⟨ρ1, e1, hr⟩ := bind_some hr
    obtain ⟨k, e2, hr⟩ := bind_some hr
    have s3 := (si.wipe vs).gx' gx3
    refine ⟨G0, H0, G3, _, _, ρ1, s3, rx, e1, fun σ2 l2 k2 s2 => ⟨?_, ?_⟩⟩
    · rw [wipe_eq vs (L2.wipe σ vs) σ2 l2 k2]
      exact wipe_eq vs σ (L2.wipe σ vs) (wipe_length _ _) fun j hj => wipe_out hj
    · have nD : NoD D ρ1 σ2 := NoD.tgt ((s.noD hD).wipe vs) e1 k2
      refine ⟨G0, H0, G3, ρ1, k, s2, e2, fun G4 H4 gx4 => ?_⟩
      have gx34 := gx3.trans gx4
      obtain ⟨d1, d2⟩ := stayD (A.nf ac) gD eD gx34
      cases k with
      | false => exact iteF ⟨G4, a, rest, oi, gx.trans gx34, d1, d2, A.mono gx34.g ac, ey, hlt, hr⟩
      | true =>
        refine iteT ?_
        obtain ⟨ds1, e3, hr⟩ := bind_some (show _ = _ from hr)
        obtain ⟨y1, e4, hr⟩ := bind_some hr
        obtain ⟨r2, e5, hr⟩ := bind_some hr
        cases hr
        have s4 := s2.gx' gx4
        refine ⟨G0, H0, G4, ρ1, ds1, s4, e3, fun G5 H5 J1 gx5 w1 => ?_⟩
        have gx35 := gx34.trans gx5
        obtain ⟨n1, n2⟩ := stayD (A.nf ac) gD eD gx35
        refine loop_in A (gx.trans gx35) hD (s4.gx' gx5) nD w1 h0D e4 (pre := a) (post := r2) (by rw [ey]; simp) n1 n2 (A.mono gx35.g ac) fun G' H' o' gx' g' h' ac' => ?_
        exact ⟨G', a ++ y1, r2, o', gx', g', h', ac', by rw [ey]; simp, hlt, e5⟩
  · have ei : i = ds.length := by omega
    subst ei
    rw [List.drop_length] at hr
    cases hr
    refine .inl ⟨w.stops Gi Hi gx.g gx.gh gx.h, q Gi Hi oi gx gD eD ?_⟩
    rw [ey, List.append_nil]; exact ac
theorem gath_lst (D : Addr) (hl : ys.length ≤ sizeLine) : Gath K D ys (fun y H4 Nx => ∃ acc, H4 D = some (.lst acc) ∧ acc.length < sizeLine ∧ Nx (upd H4 D (.lst (acc ++ [y])))) fun G l o => ∃ us, o = .lst us ∧ RepA K G l us where
  mono := fun e ⟨us, e1, r⟩ => ⟨us, e1, r.mono e⟩
  nf := fun ⟨us, e1, r⟩ => by subst e1; exact id
  put := fun {G H l r y v o Nx} ey ⟨us, e1, ra⟩ hD ry q => by
    subst e1
    refine ⟨us, hD, ?_, q _ ⟨_, rfl, ra.app (.cons ry .nil)⟩⟩
    have := congrArg List.length ey
    rw [List.length_append, List.length_cons] at this
    rw [← ra.len]; omega
end
section
variable {X : Cx} {tg elt iter tg1 iter1 : Expr} {f : SE} {fi fi1 : SI} {g g1 : SG} {t t1 : SB} {pos : Pos} {ifs ifs1 : List Expr} {scope : Scope} {own : List (Str × Nat)} {vs vs1 : List Nat} {wide : Bool}
theorem walk_w {K : PySem.W.Frag} {G0 : Fr} {H0 G H G1 H1 : Hp} {ρ : Rho} {σ : L2.St} {J : It} {ds : List PyData} (s : Sok K G0 H0 G ρ σ H) (gx1 : Gx G H G1 H1) (w : WalkD K (if wide = true then H1 else H0) G1 J ds) : WalkD K H1 G1 J ds := by
  cases wide with
  | true => exact w
  | false =>
    have z := s.gx.h.trans gx1.h
    exact ⟨fun i G2 H2 a b c e => w.goes i G2 H2 a b c (z.trans e), fun G2 H2 b c e => w.stops G2 H2 b c (z.trans e), fun i d G2 H2 x H3 a b c e => w.yields i d G2 H2 x H3 a b c (z.trans e)⟩
theorem d_lc2 [GNo g] [GNo g1] (hc : X.calm = true) (hN : X.N.Nodup) (hvs : own.map (·.2) = vs) (hv1 : ∀ i ∈ vs1, i ∈ vs) (ok : BlkOk X.N X.env.scope scope own) (hi : DI X tg iter wide fi)
    (hg : EvB X scope fun Y => DGw Y vs tg g) (ht : EvB X scope fun Y => DTs Y ifs t) (hi1 : EvB X scope fun Y => DI Y tg1 iter1 false fi1) (hg1 : EvB X scope fun Y => DGw Y vs1 tg1 g1) (ht1 : EvB X scope fun Y => DTs Y ifs1 t1) (he : EvB X scope fun Y => DX Y .val elt f)
    (hs : ∀ x, foldedSetIterable iter X.env x = pure x := by intro _; rfl) (hs1 : ∀ env x, foldedSetIterable iter1 env x = pure x := by intro _ _; rfl) : DX X .new (.ListComp elt [⟨tg, iter, ifs, 0⟩, ⟨tg1, iter1, ifs1, 0⟩] scope pos) (eLc2 fi g t fi1 g1 t1 f vs vs1) := by
  subst hvs
  exact ⟨(pe_lc2 hc hN hi.pi ok hv1 (fun s H C cl fp => (hg s H C cl fp).pg) (fun s H C cl fp => (ht s H C cl fp).pts) (fun s H C cl fp => (hi1 s H C cl fp).pi) (fun s H C cl fp => (hg1 s H C cl fp).pg) (fun s H C cl fp => (ht1 s H C cl fp).pts) (fun s H C cl fp => (he s H C cl fp).pe) hs hs1).imp fun σ H Q ⟨G0, H0, G, ρ, d, s, ed, q⟩ => by
    obtain ⟨ds, e1, ed⟩ := bind_some ed
    obtain ⟨ys, e2, ed⟩ := bind_some ed
    obtain ⟨hl, rfl⟩ := if_some ed
    refine ⟨G0, H0, G, ρ, ds, s, e1, fun G1 H1 J gx1 w => fun D hD => ?_⟩
    exact loop_out (gath_lst D hl) (s.gx' gx1) (walk_w s gx1 w) e2 hD ⟨[], rfl, .nil⟩ fun G' H' o' gx g' h' ⟨us, eo, ra⟩ => by
      subst eo
      exact q G' H' _ (gx1.trans gx) (RM.start (m := .new) gx1.h ⟨D, rfl, hD, g', .lst h' ra⟩)⟩
end
/-! ### sets of ints, in order -/
def insI (k : Int) : List Int → List Int
  | [] => [k]
  | a :: r => if k < a then k :: a :: r else if k = a then a :: r else a :: insI k r
def sortI (l : List Int) : List Int := l.foldl (fun acc k => insI k acc) []
theorem insI_mem {k x : Int} : ∀ {l : List Int}, x ∈ insI k l ↔ x = k ∨ x ∈ l
  | [] => by simp [insI]
  | a :: r => by
    unfold insI
    split
    · simp
    · split
      · rename_i h; subst h; simp
      · rw [List.mem_cons, insI_mem, List.mem_cons]
        constructor
        · rintro (h | h | h) <;> simp [h]
        · rintro (h | h | h) <;> simp [h]
theorem insI_asc {k : Int} : ∀ {l : List Int}, l.Pairwise (· < ·) → (insI k l).Pairwise (· < ·)
  | [], _ => by simp [insI]
  | a :: r, h => by
    have h' := List.pairwise_cons.mp h
    unfold insI
    split
    · rename_i z
      refine List.pairwise_cons.mpr ⟨fun b hb => ?_, h⟩
      rcases List.mem_cons.mp hb with rfl | hb
      · exact z
      · exact Int.lt_trans z (h'.1 b hb)
    · split
      · exact h
      · refine List.pairwise_cons.mpr ⟨fun b hb => ?_, insI_asc h'.2⟩
        rcases insI_mem.mp hb with rfl | hb
        · omega
        · exact h'.1 b hb
theorem insI_len {k : Int} : ∀ {l : List Int}, l.Pairwise (· < ·) → (insI k l).length = if k ∈ l then l.length else l.length + 1
  | [], _ => by simp [insI]
  | a :: r, h => by
    have h' := List.pairwise_cons.mp h
    unfold insI
    split
    · rename_i z
      have : k ∉ a :: r := fun m => by
        rcases List.mem_cons.mp m with rfl | m
        · omega
        · have := h'.1 k m; omega
      rw [if_neg this]; rfl
    · split
      · rename_i z
        rw [if_pos (by rw [z]; exact List.mem_cons_self)]
      · rename_i z1 z2
        rw [List.length_cons, insI_len h'.2]
        by_cases m : k ∈ r
        · rw [if_pos m, if_pos (List.mem_cons_of_mem _ m)]; rfl
        · rw [if_neg m, if_neg fun y => (List.mem_cons.mp y).elim z2 m]; rfl
theorem sortI_ok (l : List Int) : (sortI l).Pairwise (· < ·) ∧ ∀ x, x ∈ sortI l ↔ x ∈ l := by
  have key : ∀ (l acc : List Int), acc.Pairwise (· < ·) → (l.foldl (fun acc k => insI k acc) acc).Pairwise (· < ·) ∧ ∀ x, x ∈ l.foldl (fun acc k => insI k acc) acc ↔ x ∈ acc ∨ x ∈ l := by
    intro l
    induction l with
    | nil => intro acc h; exact ⟨h, fun x => by simp⟩
    | cons a r ih =>
      intro acc h
      obtain ⟨h1, h2⟩ := ih (insI a acc) (insI_asc h)
      refine ⟨h1, fun x => ?_⟩
      rw [List.foldl_cons, h2, insI_mem, List.mem_cons]
      constructor
      · rintro ((h | h) | h) <;> simp [h]
      · rintro (h | h | h) <;> simp [h]
  obtain ⟨h1, h2⟩ := key l [] List.Pairwise.nil
  exact ⟨h1, fun x => by rw [sortI, h2]; simp⟩
theorem sortI_snoc (l : List Int) (k : Int) : sortI (l ++ [k]) = insI k (sortI l) := by unfold sortI; rw [List.foldl_append]; rfl
theorem sortI_grow (l r : List Int) : (sortI l).length ≤ (sortI (l ++ r)).length := by
  induction r generalizing l with
  | nil => rw [List.append_nil]; exact Nat.le_refl _
  | cons a r ih =>
    have := ih (l ++ [a])
    rw [sortI_snoc, List.append_assoc] at this
    refine Nat.le_trans ?_ this
    rw [insI_len (sortI_ok l).1]
    split <;> omega
theorem asc_eq : ∀ {l m : List Int}, l.Pairwise (· < ·) → m.Pairwise (· < ·) → (∀ x, x ∈ l ↔ x ∈ m) → l = m
  | [], [], _, _, _ => rfl
  | [], b :: m, _, _, h => absurd ((h b).mpr List.mem_cons_self) (by simp)
  | a :: l, [], _, _, h => absurd ((h a).mp List.mem_cons_self) (by simp)
  | a :: l, b :: m, h1, h2, h => by
    obtain ⟨a1, a2⟩ := List.pairwise_cons.mp h1
    obtain ⟨b1, b2⟩ := List.pairwise_cons.mp h2
    have e : a = b := by
      have p := (h a).mp List.mem_cons_self
      have q := (h b).mpr List.mem_cons_self
      rcases List.mem_cons.mp p with p | p
      · exact p
      · rcases List.mem_cons.mp q with q | q
        · exact q.symm
        · have := b1 a p; have := a1 b q; omega
    subst e
    rw [asc_eq a2 b2 fun x => ?_]
    have hx := h x
    rw [List.mem_cons, List.mem_cons] at hx
    constructor
    · intro p
      rcases hx.mp (.inr p) with q | q
      · have := a1 x p; omega
      · exact q
    · intro p
      rcases hx.mpr (.inr p) with q | q
      · have := b1 x p; omega
      · exact q
theorem intsOf_app : ∀ (l r : List PyData), intsOf (l ++ r) = (intsOf l).bind fun a => (intsOf r).map fun b => a ++ b
  | [], r => by simp [intsOf]
  | .int i :: l, r => by
    show (intsOf (l ++ r)).map _ = ((intsOf l).map _).bind _
    rw [intsOf_app l r]
    cases intsOf l with
    | none => rfl
    | some a => cases intsOf r <;> simp
  | .none :: l, r => rfl
  | .bool _ :: l, r => rfl
  | .str _ :: l, r => rfl
  | .list _ :: l, r => rfl
  | .tuple _ :: l, r => rfl
  | .dict _ :: l, r => rfl
section
variable {K : PySem.W.Frag}
theorem gath_set (w : World) (D : Addr) {ys : List PyData} {ns : List Int} (hy : intsOf ys = some ns) (hl : (sortI ns).length < 64) : Gath K D ys (fun y H8 Nx1 => ∃ (k : Int) (S : Int → Bool) (n : Nat), y = .int k ∧ H8 D = some (SetO w D S n) ∧ n + 1 < scanBound ∧ Nx1 (upd H8 D (SetO w D (fun j => S j || decide (j = k)) (if S k = true then n else n + 1))))
    fun G l o => ∃ ms, intsOf l = some ms ∧ o = SetO w D (fun j => decide (j ∈ ms)) (sortI ms).length where
  mono := fun e h => h
  nf := fun ⟨ms, _, e⟩ => by subst e; exact id
  put := fun {G H l r y v o Nx} ey ⟨ms, h1, e1⟩ hD ry q => by
    subst e1
    have h2 := hy
    rw [ey, intsOf_app, h1] at h2
    obtain ⟨b, h3, h4⟩ := map_some (show (intsOf (y :: r)).map _ = _ from h2)
    cases y with
    | int k =>
      obtain ⟨b', h5, h6⟩ := map_some (show (intsOf r).map (k :: ·) = _ from h3)
      cases ry
      have hg := sortI_grow ms (k :: b')
      rw [h6, h4] at hg
      refine ⟨k, _, _, rfl, hD, by unfold scanBound; omega, ?_⟩
      have := q (SetO w D (fun j => decide (j ∈ ms ++ [k])) (sortI (ms ++ [k])).length) ⟨ms ++ [k], by rw [intsOf_app, h1]; rfl, rfl⟩
      have e1 : (fun j => decide (j ∈ ms ++ [k])) = fun j => decide (j ∈ ms) || decide (j = k) := funext fun j => by
        by_cases h : j ∈ ms <;> by_cases h' : j = k <;> simp [h, h']
      have e2 : (sortI (ms ++ [k])).length = if decide (k ∈ ms) = true then (sortI ms).length else (sortI ms).length + 1 := by
        rw [sortI_snoc, insI_len (sortI_ok ms).1]
        by_cases h : k ∈ ms
        · rw [if_pos ((sortI_ok ms).2 k |>.mpr h), if_pos (decide_eq_true h)]
        · rw [if_neg fun z => h ((sortI_ok ms).2 k |>.mp z), if_neg (by rw [decide_eq_false h]; exact Bool.false_ne_true)]
      rw [e1, e2] at this
      exact this
    | _ => cases h3
end
section
variable {X : Cx} {tg elt iter tg1 iter1 : Expr} {f : SE} {fi fi1 : SI} {g g1 : SG} {t t1 : SB} {pos pos' p : Pos} {ifs ifs1 : List Expr} {scope : Scope} {own : List (Str × Nat)} {vs vs1 : List Nat} {wide : Bool} {x : Str}
/-- sorted({elt for .. for ..}), of ints -/
def eSortS (fi : SI) (g : SG) (t : SB) (fi1 : SI) (g1 : SG) (t1 : SB) (e : SE) (vs vs1 : List Nat) : SE := fun ρ => (fi ρ).bind fun ds => (lc2Go g t fi1 g1 t1 e vs1 (wipeR ρ vs) ds).bind fun ys => (intsOf ys).bind fun ns => if (sortI ns).length < 64 then some (.list ((sortI ns).map .int)) else none
theorem d_sortS2 [GNo g] [GNo g1] (hg0 : Gl X "sorted") (hm : X.mg "sorted" = none) (hbt : bootBuiltins "sorted" = some (.builtin "sorted")) (hc : X.calm = true) (hN : X.N.Nodup) (hvs : own.map (·.2) = vs) (hv1 : ∀ i ∈ vs1, i ∈ vs) (ok : BlkOk X.N X.env.scope scope own) (hi : DI X tg iter wide fi)
    (hg : EvB X scope fun Y => DGw Y vs tg g) (ht : EvB X scope fun Y => DTs Y ifs t) (hi1 : EvB X scope fun Y => DI Y tg1 iter1 false fi1) (hg1 : EvB X scope fun Y => DGw Y vs1 tg1 g1) (ht1 : EvB X scope fun Y => DTs Y ifs1 t1) (he : EvB X scope fun Y => DX Y .val elt f)
    (hs : ∀ x, foldedSetIterable iter X.env x = pure x := by intro _; rfl) (hs1 : ∀ env x, foldedSetIterable iter1 env x = pure x := by intro _ _; rfl)
    (hst : starEach [SC2 elt tg iter ifs tg1 iter1 ifs1 scope pos'] X.env = [(false, eval (SC2 elt tg iter ifs tg1 iter1 ifs1 scope pos') X.env)] := by rfl) :
    DX X .new (.Call (.Name "sorted" p) [.SetComp elt [⟨tg, iter, ifs, 0⟩, ⟨tg1, iter1, ifs1, 0⟩] scope pos'] [] pos) (eSortS fi g t fi1 g1 t1 f vs vs1) := by
  subst hvs
  have pe := pe_sc2 (pos := pos') (g := tGw X.K (own.map (·.2)) g) (tt := tT X.K t) (wi1 := tI X.K false fi1) (g1 := tGw X.K vs1 g1) (tt1 := tT X.K t1) (te := tE X.K .val f) hc hN hi.pi ok hv1 (fun s H C cl fp => (hg s H C cl fp).pg) (fun s H C cl fp => (ht s H C cl fp).pts) (fun s H C cl fp => (hi1 s H C cl fp).pi) (fun s H C cl fp => (hg1 s H C cl fp).pg) (fun s H C cl fp => (ht1 s H C cl fp).pts) (fun s H C cl fp => (he s H C cl fp).pe) hs hs1
  exact ⟨(pe_callB (cr_sortedSet hc) hg0 hm hbt (pa_cons pe pa_nil hst) (by decide) (by decide) hst rfl).imp fun σ H Q ⟨G0, H0, G, ρ, d, s, ed, q⟩ => by
    obtain ⟨ds, e1, ed⟩ := bind_some ed
    obtain ⟨ys, e2, ed⟩ := bind_some ed
    obtain ⟨ns, e3, ed⟩ := bind_some ed
    obtain ⟨hl, rfl⟩ := if_some ed
    refine ⟨G0, H0, G, ρ, ds, s, e1, fun G1 H1 J gx1 w => fun D hD => ?_⟩
    have a0 : ∃ ms, intsOf [] = some ms ∧ SetO X.w D (fun _ => false) 0 = SetO X.w D (fun j => decide (j ∈ ms)) (sortI ms).length := ⟨[], rfl, by simp [sortI]⟩
    refine loop_out (Q := fun v H' => tNil σ H' fun xs H2 => rSortedSet X.w (v :: xs) H2 Q) (gath_set (K := X.K) X.w D e3 hl) (s.gx' gx1) (walk_w s gx1 w) e2 hD a0 fun G' H' o' gx g' h' ⟨ms, hm2, eo⟩ => ?_
    rw [e3] at hm2; cases hm2
    subst eo
    refine ⟨D, _, _, rfl, h', hl, fun ns' p a1 a2 a3 np => ?_⟩
    have en : ns' = sortI ns := asc_eq a1 (sortI_ok ns).1 fun x => by rw [a2, decide_eq_true_iff, (sortI_ok ns).2]
    subst en
    have gt := gx1.trans gx
    have gm := Gx.mine (o := .lst ((sortI ns).map V.int)) gt.gh np
    exact q G' _ _ (gt.trans gm) ⟨p, rfl, gt.h.back np, gt.gh.back np, .lst upd_same (RepA.ints _)⟩⟩
end
end DV

namespace DV
open PySem L2 PySem.Spec PyProof.Rows
/-! ### sorted: pairs of ints, ints -/
abbrev I2 := Int × Int
def encI2 (p : I2) : PyData := .tuple [.int p.1, .int p.2]
def ltI2 (p q : I2) : Prop := p.1 < q.1 ∨ (p.1 = q.1 ∧ p.2 < q.2)
instance (p q : I2) : Decidable (ltI2 p q) := by unfold ltI2; exact inferInstance
def insP (p : I2) : List I2 → List I2
  | [] => [p]
  | q :: r => if ltI2 q p then q :: insP p r else p :: q :: r
def sortP (l : List I2) : List I2 := l.foldr insP []
def AscP (l : List I2) : Prop := l.Pairwise fun x y => ¬ ltI2 y x
theorem insP_perm (p : I2) : ∀ l, (insP p l).Perm (p :: l)
  | [] => List.Perm.refl _
  | q :: r => by
    unfold insP
    split
    · exact ((insP_perm p r).cons q).trans (List.Perm.swap p q r)
    · exact List.Perm.refl _
theorem insP_asc {p : I2} : ∀ {l}, AscP l → AscP (insP p l)
  | [], _ => by simp [insP, AscP]
  | q :: r, h => by
    obtain ⟨h1, h2⟩ := List.pairwise_cons.mp h
    unfold insP
    split
    · rename_i z
      refine List.pairwise_cons.mpr ⟨fun x hx => ?_, insP_asc h2⟩
      rcases List.mem_cons.mp ((insP_perm p r).mem_iff.mp hx) with rfl | hx
      · unfold ltI2 at *; omega
      · exact h1 x hx
    · rename_i z
      refine List.pairwise_cons.mpr ⟨fun x hx => ?_, h⟩
      rcases List.mem_cons.mp hx with rfl | hx
      · exact z
      · have := h1 x hx
        unfold ltI2 at *; omega
theorem sortP_perm : ∀ l, (sortP l).Perm l
  | [] => List.Perm.refl _
  | p :: l => (insP_perm p (sortP l)).trans ((sortP_perm l).cons p)
theorem sortP_asc : ∀ l, AscP (sortP l)
  | [] => List.Pairwise.nil
  | p :: l => insP_asc (sortP_asc l)
theorem ascP_eq : ∀ {l m : List I2}, AscP l → AscP m → l.Perm m → l = m
  | [], m, _, _, h => h.nil_eq
  | a :: l, [], _, _, h => absurd h.length_eq (by simp)
  | a :: l, b :: m, h1, h2, h => by
    obtain ⟨a1, a2⟩ := List.pairwise_cons.mp h1
    obtain ⟨b1, b2⟩ := List.pairwise_cons.mp h2
    have e : a = b := by
      have p : a ∈ b :: m := h.mem_iff.mp List.mem_cons_self
      have q : b ∈ a :: l := h.mem_iff.mpr List.mem_cons_self
      rcases List.mem_cons.mp p with p | p
      · exact p
      · rcases List.mem_cons.mp q with q | q
        · exact q.symm
        · have x := b1 a p
          have y := a1 b q
          have : a.1 = b.1 ∧ a.2 = b.2 := by unfold ltI2 at x y; omega
          exact Prod.ext this.1 this.2
    subst e
    rw [ascP_eq a2 b2 h.cons_inv]
def pairsOf : List PyData → Option (List I2)
  | [] => some []
  | .tuple [.int i, .int j] :: r => (pairsOf r).map ((i, j) :: ·)
  | _ => none
theorem pairsOf_some : ∀ {ds : List PyData} {ps : List I2}, pairsOf ds = some ps → ds = ps.map encI2
  | [], ps, h => by cases h; rfl
  | d :: r, ps, h => by
    unfold pairsOf at h
    split at h
    · cases ‹d :: r = []›
    · rename_i i j r' e
      cases e
      obtain ⟨ms, h1, rfl⟩ := map_some h
      rw [pairsOf_some h1]; rfl
    · cases h
theorem pairsOf_map (ps : List I2) : pairsOf (ps.map encI2) = some ps := by
  induction ps with
  | nil => rfl
  | cons p r ih => show (pairsOf (r.map encI2)).map _ = _; rw [ih]; rfl
def cSortP : List PyData → Option PyData
  | [.list l] => (pairsOf l).map fun ps => .list ((sortP ps).map encI2)
  | _ => none
/-- what a pair at an address says -/
def keyP (H : Hp) : V → I2
  | .ref t => match H t with
    | some (.tup [.int i, .int j]) => (i, j)
    | _ => (0, 0)
  | _ => (0, 0)
theorem RepA.each {K : PySem.W.Frag} {G : Hp} {α : Type} (f : α → PyData) : ∀ {as : List α} {vs : List V}, RepA K G (as.map f) vs → ∀ v ∈ vs, ∃ a ∈ as, Rep K G (f a) v
  | [], _, .nil, v, h => by cases h
  | a :: as, _, .cons h r, v, hv => by
    rcases List.mem_cons.mp hv with rfl | hv
    · exact ⟨a, List.mem_cons_self, h⟩
    · obtain ⟨b, h1, h2⟩ := RepA.each f r v hv
      exact ⟨b, List.mem_cons_of_mem _ h1, h2⟩
theorem cf_sortP {K : PySem.W.Frag} : CallF K .new (rSortedPO K) cSortP := fun G H ds d vs Q e r h q => by
  unfold cSortP at h
  split at h
  · obtain ⟨ps, h1, rfl⟩ := map_some h
    obtain ⟨v, rfl, r1⟩ := r.one
    cases pairsOf_some h1
    obtain ⟨a, us, rfl, h2, ra⟩ := r1.rd e
    have key : ∀ p u, Rep K G (encI2 p) u → keyP H u = p ∧ ∃ t, u = .ref t ∧ H t = some (.tup [.int p.1, .int p.2]) := fun p u hr => by
      cases hr with
      | tup hq ra =>
        cases ra with
        | cons x ra =>
          cases ra with
          | cons y ra =>
            cases ra
            cases x
            cases y
            have z := e _ _ hq
            refine ⟨?_, _, rfl, z⟩
            show (match H _ with | some (.tup [.int i, .int j]) => (i, j) | _ => (0, 0)) = p
            rw [z]
    refine ⟨a, us, keyP H, rfl, .inl h2, fun x hx => ?_, fun ys p hs hb np => ?_⟩
    · obtain ⟨b, _, hb⟩ := RepA.each encI2 ra x hx
      obtain ⟨k1, t, k2, k3⟩ := key b x hb
      exact ⟨t, k2, by rw [k1]; exact k3⟩
    · have hm : us.map (keyP H) = ps := by
        clear hs hb q h2 h r1 r h1
        induction ps generalizing us with
        | nil => cases ra; rfl
        | cons b ps ih =>
          cases ra with
          | cons x ra =>
            rw [List.map_cons, (key b _ x).1]
            congr 1
            exact ih _ ra
      have ep : ys.map (keyP H) = sortP ps := by
        refine ascP_eq ?_ (sortP_asc ps) (((hb.perm.map (keyP H)).trans (by rw [hm])).trans (sortP_perm ps).symm)
        refine List.pairwise_map.mpr (hs.imp fun {x y} z => ?_)
        have := SrtO.lexB_no.mp z
        unfold ltI2
        omega
      have rep : ∀ l : List V, (∀ y ∈ l, y ∈ us) → RepA K G ((l.map (keyP H)).map encI2) l := by
        intro l
        induction l with
        | nil => intro _; exact .nil
        | cons y l ih =>
          intro hl
          obtain ⟨b, _, hb⟩ := RepA.each encI2 ra y (hl y List.mem_cons_self)
          refine .cons ?_ (ih fun z hz => hl z (List.mem_cons_of_mem _ hz))
          rw [(key b y hb).1]; exact hb
      have gm := Gx.mine (o := .lst ys) e np
      refine q G _ _ gm fun H0 => ⟨p, rfl, np, e.back np, .lst upd_same ?_⟩
      rw [← ep]
      exact rep ys fun y hy => hb.perm.mem_iff.mp hy
  · cases h
end DV

namespace DV
open PySem L2
/-! ### range(lo, hi, step), step above 0 -/
def rng3 : List PyData → Option (List PyData)
  | [.int i, .int j, .int c] => if c ≠ 0 ∧ c.natAbs < 1073741824 ∧ Builtin.Range.small i j c = true ∧ 0 ≤ Builtin.Range.rangeSize i j c then some (rangeC i c (Builtin.Range.rangeSize i j c).toNat) else none
  | _ => none
section
variable {X : Cx} {tg a b c : Expr} {p pos : Pos} {r : SA}
theorem i_range3 (hg : Gl X "range") (hm : X.mg "range" = none) (ha : DA X [.val, .val, .val] [a, b, c] r)
    (hs : starEach [a, b, c] X.env = (false, eval a X.env) :: starEach [b, c] X.env := by rfl) (hpl : (backTo pos (starEach [b, c] X.env)).any (·.1) = false := by rfl) :
    DI X tg (.Call (.Name "range" p) [a, b, c] [] pos) false (sArgs rng3 r) :=
  ⟨(pi_range3 hg hm ha.pa hs hpl).imp fun σ H R ⟨G0, H0, G, ρ, ds, s, ed, q⟩ => by
    obtain ⟨l, e1, e2⟩ := bind_some ed
    refine ⟨G0, H0, G, ρ, l, s, e1, fun G' H' vs gx r => ?_⟩
    unfold rng3 at e2
    split at e2
    · obtain ⟨⟨h1, h2, h3, h4⟩, rfl⟩ := if_some e2
      obtain ⟨v, w, z, rfl, r1, r2, r3⟩ := r.three
      cases (show Rep X.K G' (.int _) v from r1)
      cases (show Rep X.K G' (.int _) w from r2)
      cases (show Rep X.K G' (.int _) z from r3)
      exact ⟨_, _, _, _, rfl, ⟨h1, h2, h3, (Int.toNat_of_nonneg h4).symm⟩, q G' H' _ gx WalkD.rangeC⟩
    · cases e2⟩
end
end DV

namespace DV
open PySem L2 PySem.Spec PyProof.Rows
open Classical
/-! ### the world: things that change, by their handles -/
inductive WV where
  | d (x : PyData) | r (h : Nat)
inductive WO where
  | lst (l : List WV)
  | dK (es : List (Key × WV))
  | ins (c : Str) (fs : List (Str × WV))
  | gone (d : PyData)
  | tab (x : Str)
abbrev Wd := List WO
def WO.isI : WO → Bool
  | .ins _ _ => true
  | _ => false
/-- frozen, or there -/
def WO.isG : WO → Bool
  | .gone _ => true
  | _ => false
/-- where the things stand; an instance's dict -/
structure Pl where
  a : Nat → Addr
  x : Nat → Addr
inductive RepV (K : PySem.W.Frag) (G : Hp) (α : Pl) (n : Nat) : WV → V → Prop
  | d {x : PyData} {v : V} : Rep K G x v → RepV K G α n (.d x) v
  | r {h : Nat} : h < n → RepV K G α n (.r h) (.ref (α.a h))
inductive RepVA (K : PySem.W.Frag) (G : Hp) (α : Pl) (n : Nat) : List WV → List V → Prop
  | nil : RepVA K G α n [] []
  | cons {x : WV} {xs : List WV} {v : V} {vs : List V} : RepV K G α n x v → RepVA K G α n xs vs → RepVA K G α n (x :: xs) (v :: vs)
/-- the places go on -/
def Pl.Le (n : Nat) (α α' : Pl) : Prop := ∀ h, h < n → α'.a h = α.a h ∧ α'.x h = α.x h
theorem Pl.Le.refl (n : Nat) (α : Pl) : Pl.Le n α α := fun _ _ => ⟨rfl, rfl⟩
theorem Pl.Le.trans {n m : Nat} {α β γ : Pl} (h : Pl.Le n α β) (hm : n ≤ m) (k : Pl.Le m β γ) : Pl.Le n α γ := fun i hi =>
  ⟨(k i (Nat.lt_of_lt_of_le hi hm)).1.trans (h i hi).1, (k i (Nat.lt_of_lt_of_le hi hm)).2.trans (h i hi).2⟩
theorem RepV.mono {K : PySem.W.Frag} {G G' : Hp} {α α' : Pl} {n n' : Nat} (e : Ex G G') (hn : n ≤ n') (l : Pl.Le n α α') {x : WV} {v : V} (h : RepV K G α n x v) : RepV K G' α' n' x v := by
  cases h with
  | d h => exact .d (h.mono e)
  | @r h hl =>
    rw [← (l h hl).1]
    exact .r (Nat.lt_of_lt_of_le hl hn)
theorem RepVA.mono {K : PySem.W.Frag} {G G' : Hp} {α α' : Pl} {n n' : Nat} (e : Ex G G') (hn : n ≤ n') (l : Pl.Le n α α') : ∀ {xs : List WV} {vs : List V}, RepVA K G α n xs vs → RepVA K G' α' n' xs vs
  | _, _, .nil => .nil
  | _, _, .cons h t => .cons (h.mono e hn l) (t.mono e hn l)
theorem RepVA.len {K : PySem.W.Frag} {G : Hp} {α : Pl} {n : Nat} : ∀ {xs : List WV} {vs : List V}, RepVA K G α n xs vs → xs.length = vs.length
  | _, _, .nil => rfl
  | _, _, .cons _ t => congrArg (· + 1) t.len
theorem RepVA.get {K : PySem.W.Frag} {G : Hp} {α : Pl} {n : Nat} : ∀ {xs : List WV} {vs : List V} {i : Nat} {x : WV}, RepVA K G α n xs vs → xs[i]? = some x → ∃ v, vs[i]? = some v ∧ RepV K G α n x v
  | _, _, _, _, .nil, e => by simp at e
  | _, _, 0, _, .cons h _, e => by simp at e; subst e; exact ⟨_, rfl, h⟩
  | _, _, i + 1, x, .cons _ t, e => by
    obtain ⟨v, h1, h2⟩ := t.get (i := i) (x := x) (by simpa using e)
    exact ⟨v, by simpa using h1, h2⟩
theorem RepVA.app {K : PySem.W.Frag} {G : Hp} {α : Pl} {n : Nat} : ∀ {xs ys : List WV} {vs us : List V}, RepVA K G α n xs vs → RepVA K G α n ys us → RepVA K G α n (xs ++ ys) (vs ++ us)
  | _, _, _, _, .nil, t => t
  | _, _, _, _, .cons h s, t => .cons h (s.app t)
theorem RepVA.set {K : PySem.W.Frag} {G : Hp} {α : Pl} {n : Nat} : ∀ {xs : List WV} {vs : List V} {x : WV} {v : V} (i : Nat), RepVA K G α n xs vs → RepV K G α n x v → RepVA K G α n (xs.set i x) (vs.set i v)
  | _, _, _, _, _, .nil, _ => .nil
  | _, _, _, _, 0, .cons _ t, h => .cons h t
  | _, _, _, _, i + 1, .cons q t, h => .cons q (t.set i h)
theorem RepVA.take {K : PySem.W.Frag} {G : Hp} {α : Pl} {n : Nat} : ∀ {xs : List WV} {vs : List V} (i : Nat), RepVA K G α n xs vs → RepVA K G α n (xs.take i) (vs.take i)
  | _, _, 0, _ => .nil
  | _, _, _ + 1, .nil => .nil
  | _, _, i + 1, .cons h t => .cons h (t.take i)
theorem RepVA.drop {K : PySem.W.Frag} {G : Hp} {α : Pl} {n : Nat} : ∀ {xs : List WV} {vs : List V} (i : Nat), RepVA K G α n xs vs → RepVA K G α n (xs.drop i) (vs.drop i)
  | _, _, 0, t => t
  | _, _, _ + 1, .nil => .nil
  | _, _, i + 1, .cons _ t => t.drop i
theorem RepVA.data {K : PySem.W.Frag} {G : Hp} {α : Pl} {n : Nat} : ∀ {ds : List PyData} {vs : List V}, RepA K G ds vs → RepVA K G α n (ds.map .d) vs
  | _, _, .nil => .nil
  | _, _, .cons h t => .cons (.d h) (RepVA.data t)
theorem RepVA.ofData {K : PySem.W.Frag} {G : Hp} {α : Pl} {n : Nat} : ∀ {ds : List PyData} {vs : List V}, RepVA K G α n (ds.map .d) vs → RepA K G ds vs
  | [], _, .nil => .nil
  | d :: ds, _, .cons h t => by
    cases h with
    | d h => exact .cons h (RepVA.ofData t)
/-- a thing of the world stands in the heap -/
def ObjW (K : PySem.W.Frag) (cl : Str → Addr) (G : Hp) (α : Pl) (n : Nat) (H : Hp) (h : Nat) : WO → Prop
  | .lst l => ∃ vs, H (α.a h) = some (.lst vs) ∧ RepVA K G α n l vs
  | .dK es => ∃ ks, H (α.a h) = some (.dK ks) ∧ es.map (·.1) = ks.map (·.1) ∧ RepVA K G α n (es.map (·.2)) (ks.map (·.2))
  | .ins c fs => ∃ vs, H (α.a h) = some (.ins (cl c) (α.x h) vs) ∧ H (α.x h) = some (.own (α.a h)) ∧ fs.map (·.1) = vs.map (·.1) ∧ RepVA K G α n (fs.map (·.2)) (vs.map (·.2))
  | .gone d => Rep K G d (.ref (α.a h))
  | .tab x => α.a h = cl x ∧ ∃ ps, H (α.a h) = some (.tbl ps) ∧ TriplesOk ps.toList
/-- the addresses of the world -/
def dom (α : Pl) (w : Wd) (p : Addr) : Prop := ∃ h o, w[h]? = some o ∧ o.isG = false ∧ (p = α.a h ∨ (o.isI = true ∧ p = α.x h))
noncomputable def putW (H0 : Hp) (D : Addr → Prop) (H : Hp) : Hp := fun p => if D p then H p else H0 p
noncomputable def hideW (H : Hp) (D : Addr → Prop) : Hp := fun p => if D p then none else H p
section
variable {K : PySem.W.Frag} {cl : Str → Addr} {H H' H0 G G' : Hp} {α α' : Pl} {w w' : Wd} {p : Addr} {o : HO} {D D' : Addr → Prop}
theorem putW_in (h : D p) : putW H0 D H p = H p := if_pos h
theorem putW_out (h : ¬ D p) : putW H0 D H p = H0 p := if_neg h
theorem hideW_in (h : D p) : hideW H D p = none := if_pos h
theorem hideW_out (h : ¬ D p) : hideW H D p = H p := if_neg h
theorem hideW_le : Ex (hideW H D) H := fun p o h => by
  by_cases e : D p
  · rw [hideW_in e] at h; cases h
  · rw [hideW_out e] at h; exact h
theorem ObjW.mono {n n' : Nat} {h : Nat} {o : WO} (e : Ex G G') (hn : n ≤ n') (l : Pl.Le n α α') (hh : h < n) (ha : o.isG = false → H' (α.a h) = H (α.a h)) (hx : o.isI = true → H' (α.x h) = H (α.x h)) (x : ObjW K cl G α n H h o) : ObjW K cl G' α' n' H' h o := by
  cases o with
  | lst t =>
    obtain ⟨vs, e1, r⟩ := x
    exact ⟨vs, by rw [(l h hh).1, ha rfl, e1], r.mono e hn l⟩
  | dK es =>
    obtain ⟨ks, e1, e2, r⟩ := x
    exact ⟨ks, by rw [(l h hh).1, ha rfl, e1], e2, r.mono e hn l⟩
  | ins c fs =>
    obtain ⟨vs, e1, e2, e3, r⟩ := x
    exact ⟨vs, by rw [(l h hh).1, (l h hh).2, ha rfl, e1], by rw [(l h hh).1, (l h hh).2, hx rfl, e2], e3, r.mono e hn l⟩
  | gone d =>
    show Rep K G' d (.ref (α'.a h))
    rw [(l h hh).1]
    exact Rep.mono e x
  | tab y =>
    obtain ⟨e1, ps, e2, r⟩ := x
    exact ⟨by rw [(l h hh).1, e1], ps, by rw [(l h hh).1, ha rfl, e2], r⟩
theorem ObjW.there {n h : Nat} {o : WO} (hg : o.isG = false) (x : ObjW K cl G α n H h o) : (∃ u, H (α.a h) = some u ∧ ¬ Fresh (some u) ∧ ∀ y, u ≠ .own y) ∧ (o.isI = true → H (α.x h) = some (.own (α.a h))) := by
  cases o with
  | lst t => obtain ⟨vs, e1, r⟩ := x; exact ⟨⟨_, e1, id, fun y => by simp⟩, fun z => by cases z⟩
  | dK es => obtain ⟨ks, e1, r⟩ := x; exact ⟨⟨_, e1, id, fun y => by simp⟩, fun z => by cases z⟩
  | ins c fs => obtain ⟨vs, e1, e2, r⟩ := x; exact ⟨⟨_, e1, id, fun y => by simp⟩, fun _ => e2⟩
  | gone d => cases hg
  | tab y => obtain ⟨e0, ps, e1, r⟩ := x; exact ⟨⟨_, e1, id, fun y => by simp⟩, fun z => by cases z⟩
end
def Fr.at (F : Fr) (α : Pl) (n : Nat) : Fr := { F with sts := fun h a => h < n ∧ a = α.a h }
structure WOk (K : PySem.W.Frag) (cl : Str → Addr) (F : Fr) (H0 G H : Hp) (α : Pl) (w : Wd) : Prop where
  inj : ∀ h h' o o', w[h]? = some o → w[h']? = some o' → o.isG = false → o'.isG = false → α.a h = α.a h' → h = h'
  obj : ∀ h o, w[h]? = some o → ObjW K cl G α w.length H h o
  g : ∀ p, dom α w p → G p = none
  b : ∀ p, dom α w p → F.b p = none
  h : ∀ p, dom α w p → H0 p = none
  p : ∀ p, dom α w p → ∀ i vs, F.pin i ≠ some (p, vs)
structure Nok (K : PySem.W.Frag) (cl : Str → Addr) (F : Fr) (H0 G : Hp) (ρ : Rho) (σ : L2.St) (H : Hp) (w : Wd) (α : Pl) : Prop where
  sok : Sok K (F.at α w.length) (putW H0 (dom α w) H) G ρ σ H
  ww : WOk K cl F H0 G H α w
/-- how heaps and world go on -/
structure Nx (G H : Hp) (w : Wd) (α : Pl) (G' H' : Hp) (w' : Wd) (α' : Pl) : Prop where
  g : Ex G G'
  h : Ex (hideW H (dom α w)) (hideW H' (dom α' w'))
  le : ∀ p, dom α w p → dom α' w' p ∨ G' p ≠ none
  n : w.length ≤ w'.length
  al : Pl.Le w.length α α'
  nw : ∀ p, G' p ≠ none → G p ≠ none ∨ Fresh (hideW H (dom α w) p)
theorem Ex.there {G G' : Hp} (e : Ex G G') {p : Addr} (h : G p ≠ none) : G' p ≠ none := by
  cases z : G p with
  | none => exact absurd z h
  | some u => rw [e p u z]; simp
theorem Nx.refl {G H : Hp} {w : Wd} {α : Pl} : Nx G H w α G H w α := ⟨Ex.refl _, Ex.refl _, fun _ h => .inl h, Nat.le_refl _, .refl _ _, fun _ h => .inl h⟩
theorem Nx.trans {G H G1 H1 G2 H2 : Hp} {w w1 w2 : Wd} {α α1 α2 : Pl} (a : Nx G H w α G1 H1 w1 α1) (b : Nx G1 H1 w1 α1 G2 H2 w2 α2) : Nx G H w α G2 H2 w2 α2 :=
  ⟨a.g.trans b.g, a.h.trans b.h, fun p h => (a.le p h).elim (b.le p) fun z => .inr (b.g.there z), Nat.le_trans a.n b.n, a.al.trans a.n b.al, fun p h => (b.nw p h).elim (a.nw p) fun h => .inr (h.back a.h)⟩
section
variable {K : PySem.W.Frag} {cl : Str → Addr} {F : Fr} {H0 G H G' H' : Hp} {ρ ρ' : Rho} {σ σ' : L2.St} {w w' : Wd} {α α' : Pl} {d : PyData} {v : V}
theorem WOk.there (W : WOk K cl F H0 G H α w) {p : Addr} (h : dom α w p) : ∃ u, H p = some u ∧ ¬ Fresh (some u) := by
  obtain ⟨i, o, e, hg, hp | ⟨hi, hp⟩⟩ := h
  · subst hp
    obtain ⟨u, h1, h2, _⟩ := ((W.obj i o e).there hg).1
    exact ⟨u, h1, h2⟩
  · subst hp
    exact ⟨_, ((W.obj i o e).there hg).2 hi, id⟩
theorem dom_a {h : Nat} {o : WO} (e : w[h]? = some o) (hg : o.isG = false) : dom α w (α.a h) := ⟨h, o, e, hg, .inl rfl⟩
theorem WO.gi {o : WO} (h : o.isI = true) : o.isG = false := by cases o <;> first | rfl | cases h
theorem dom_x {h : Nat} {o : WO} (e : w[h]? = some o) (hi : o.isI = true) : dom α w (α.x h) := ⟨h, o, e, o.gi hi, .inr ⟨hi, rfl⟩⟩
theorem Nok.gh (s : Nok K cl F H0 G ρ σ H w α) : Ex G H := s.sok.gx.gh
theorem lt_of {h : Nat} {o : WO} (e : w[h]? = some o) : h < w.length := (List.getElem?_eq_some_iff.mp e).1
theorem WOk.gx (W : WOk K cl F H0 G H α w) (x : Gx G H G' H') : WOk K cl F H0 G' H' α w := by
  refine ⟨W.inj, fun h o e => ?_, fun p hp => ?_, W.b, W.h, W.p⟩
  · have z := W.obj h o e
    refine z.mono x.g (Nat.le_refl _) (.refl _ _) (lt_of e) (fun hg => ?_) fun hi => ?_
    · obtain ⟨u, h1, _⟩ := (z.there hg).1
      rw [h1]; exact x.h _ _ h1
    · have h1 := (z.there (o.gi hi)).2 hi
      rw [h1]; exact x.h _ _ h1
  · cases e : G' p with
    | none => rfl
    | some u =>
      obtain ⟨y, h1, h2⟩ := W.there hp
      rcases x.nw p (by rw [e]; simp) with z | z
      · exact absurd (W.g p hp) z
      · rw [h1] at z; exact absurd z h2
theorem putW_eq (W : WOk K cl F H0 G H α w) (x : Ex H H') : putW H0 (dom α w) H' = putW H0 (dom α w) H := by
  funext p
  by_cases e : dom α w p
  · obtain ⟨u, h1, _⟩ := W.there e
    rw [putW_in e, putW_in e, h1]; exact x _ _ h1
  · rw [putW_out e, putW_out e]
theorem Nok.gx' (s : Nok K cl F H0 G ρ σ H w α) (x : Gx G H G' H') : Nok K cl F H0 G' ρ σ H' w α := ⟨by rw [putW_eq s.ww x.h]; exact s.sok.gx' x, s.ww.gx x⟩
theorem Nx.gx (x : Gx G H G' H') : Nx G H w α G' H' w α := by
  refine ⟨x.g, fun p o q => ?_, fun _ h => .inl h, Nat.le_refl _, .refl _ _, fun p hp => (x.nw p hp).imp id fun h => ?_⟩
  · by_cases z : dom α w p
    · rw [hideW_in z] at q; cases q
    · rw [hideW_out z] at q ⊢; exact x.h p o q
  · by_cases z : dom α w p
    · rw [hideW_in z]; exact True.intro
    · rw [hideW_out z]; exact h
/-- a step of the pure layer: own things may have changed -/
theorem Nok.sok' (s : Nok K cl F H0 G ρ σ H w α) (e : Ex G G') (s' : Sok K (F.at α w.length) (putW H0 (dom α w) H) G' ρ' σ' H') : Nok K cl F H0 G' ρ' σ' H' w α := by
  have keep : ∀ p, dom α w p → H' p = H p := fun p hp => by
    obtain ⟨u, h1, _⟩ := s.ww.there hp
    rw [h1]
    exact s'.gx.h p u (by rw [putW_in hp]; exact h1)
  have ep : putW H0 (dom α w) H' = putW H0 (dom α w) H := by
    funext p
    by_cases z : dom α w p
    · rw [putW_in z, putW_in z, keep p z]
    · rw [putW_out z, putW_out z]
  refine ⟨by rw [ep]; exact s', ⟨s.ww.inj, fun h o q => ?_, fun p hp => ?_, s.ww.b, s.ww.h, s.ww.p⟩⟩
  · exact (s.ww.obj h o q).mono e (Nat.le_refl _) (.refl _ _) (lt_of q) (fun hg => keep _ (dom_a q hg)) fun hi => keep _ (dom_x q hi)
  · cases e2 : G' p with
    | none => rfl
    | some u =>
      exfalso
      obtain ⟨y, h1, h2⟩ := s.ww.there hp
      rcases s'.gx.nw p (by rw [e2]; simp) with z | z
      · cases e3 : (F.at α w.length).g p with
        | none => exact z e3
        | some u2 =>
          have := s.sok.gx.g p u2 e3
          rw [s.ww.g p hp] at this; cases this
      · rw [putW_in hp, h1] at z
        exact h2 z
/-- Sok with more handles -/
theorem Sok.handles {F : Fr} {B : Hp} {m n : Nat} (s : Sok K (F.at α m) B G ρ σ H) (hn : m ≤ n) (l : Pl.Le m α α') : Sok K (F.at α' n) B G ρ σ H := by
  refine ⟨s.gx, s.len, fun i t hi => ?_, s.apart, s.pins, s.base, s.wf⟩
  have q := s.slot i t hi
  generalize σ[i]?.getD none = x at q
  cases q with
  | un => exact .un
  | val h => exact .val h
  | bor h => exact .bor h
  | scr h => exact .scr h
  | pin => exact .pin
  | own h1 h2 h3 => exact .own h1 h2 h3
  | @st h a hs =>
    obtain ⟨h1, h2⟩ := hs
    exact .st ⟨Nat.lt_of_lt_of_le h1 hn, by rw [(l h h1).1]; exact h2⟩
/-- the world changes: what is in it, and what comes to it -/
theorem Nok.chg (s : Nok K cl F H0 G ρ σ H w α) (hn : w.length ≤ w'.length) (l : Pl.Le w.length α α') (le : ∀ p, dom α w p → dom α' w' p) (new : ∀ p, dom α' w' p → dom α w p ∨ H p = none) (hout : ∀ p, ¬ dom α' w' p → H' p = H p)
    (inj : ∀ h h' o o', w'[h]? = some o → w'[h']? = some o' → o.isG = false → o'.isG = false → α'.a h = α'.a h' → h = h') (obj : ∀ h o, w'[h]? = some o → ObjW K cl G α' w'.length H' h o) : Nok K cl F H0 G ρ σ H' w' α' := by
  have gx := s.sok.gx
  have W := s.ww
  have hn0 : ∀ p, dom α' w' p → H p ≠ none → dom α w p := fun p h q => (new p h).resolve_right q
  have wg : ∀ p, dom α' w' p → G p = none := fun p h => by
    cases e : G p with
    | none => rfl
    | some u =>
      have := W.g p (hn0 p h (by rw [gx.gh p u e]; simp))
      rw [e] at this; cases this
  have h0 : ∀ p, dom α' w' p → H0 p = none := fun p h => by
    cases e : H0 p with
    | none => rfl
    | some u =>
      have hH : H p ≠ none := by
        by_cases z : dom α w p
        · obtain ⟨y, h1, _⟩ := W.there z
          rw [h1]; simp
        · rw [gx.h p u (by rw [putW_out z]; exact e)]; simp
      have := W.h p (hn0 p h hH)
      rw [e] at this; cases this
  have wb : ∀ p, dom α' w' p → F.b p = none := fun p h => by
    cases e : F.b p with
    | none => rfl
    | some u =>
      have := W.b p (hn0 p h (by rw [gx.h p u (s.sok.base p u e)]; simp))
      rw [e] at this; cases this
  have wp : ∀ p, dom α' w' p → ∀ i vs, F.pin i ≠ some (p, vs) := fun p h i vs e => by
    have q := s.sok.wf i p vs e
    exact W.p p (hn0 p h (by rw [gx.h p _ q]; simp)) i vs e
  have out' : ∀ p, ¬ dom α' w' p → ¬ dom α w p := fun p h z => h (le p z)
  have exg : ∀ {A B : Hp}, (∀ p, dom α' w' p → A p = none) → Ex A B → (∀ p, ¬ dom α' w' p → H' p = B p) → Ex A H' := fun {A B} hA e hb p o h => by
    by_cases z : dom α' w' p
    · rw [hA p z] at h; cases h
    · rw [hb p z]; exact e p o h
  have sl := (s.sok.handles hn l)
  refine ⟨⟨⟨gx.g, fun p o h => ?_, exg wg gx.gh hout, fun p hp => ?_⟩, s.sok.len, fun i t ht => ?_, s.sok.apart, s.sok.pins, fun p o h => ?_, fun i p vs h => ?_⟩, ⟨inj, obj, wg, wb, h0, wp⟩⟩
  · by_cases z : dom α' w' p
    · rw [putW_in z] at h; exact h
    · rw [putW_out z] at h
      rw [hout p z]
      exact gx.h p o (by rw [putW_out (out' p z)]; exact h)
  · rcases gx.nw p hp with q | q
    · exact .inl q
    · right
      by_cases z : dom α' w' p
      · exact absurd (wg p z) hp
      · rw [putW_out z]; rw [putW_out (out' p z)] at q; exact q
  · have q := sl.slot i t ht
    generalize σ[i]?.getD none = x at q
    cases q with
    | un => exact .un
    | val h => exact .val h
    | bor h => exact .bor h
    | scr h => exact .scr h
    | pin => exact .pin
    | st h => exact .st h
    | @own d p h1 h2 h3 =>
      obtain ⟨u, hu⟩ := h3.there
      have z : ¬ dom α' w' p := fun z => by
        have q1 := hn0 p z (by rw [hu]; simp)
        rw [putW_in q1, hu] at h1; cases h1
      refine .own ?_ h2 (h3.mono (Ex.refl _) (hout p z))
      rw [putW_out z]
      rw [putW_out (out' p z)] at h1
      exact h1
  · have q := s.sok.base p o h
    by_cases z : dom α' w' p
    · have := wb p z
      rw [show F.b p = some o from h] at this; cases this
    · rw [putW_out z]; rw [putW_out (out' p z)] at q; exact q
  · have q := s.sok.wf i p vs h
    by_cases z : dom α' w' p
    · exact absurd h (wp p z i vs)
    · rw [putW_out z]; rw [putW_out (out' p z)] at q; exact q
theorem Nx.chg (hn : w.length ≤ w'.length) (l : Pl.Le w.length α α') (le : ∀ p, dom α w p → dom α' w' p) (new : ∀ p, dom α' w' p → dom α w p ∨ H p = none) (hout : ∀ p, ¬ dom α' w' p → H' p = H p) : Nx G H w α G H' w' α' := by
  refine ⟨Ex.refl _, fun p o h => ?_, fun p h => .inl (le p h), hn, l, fun _ h => .inl h⟩
  by_cases z : dom α w p
  · rw [hideW_in z] at h; cases h
  · rw [hideW_out z] at h
    by_cases z2 : dom α' w' p
    · rcases new p z2 with q | q
      · exact absurd q z
      · rw [q] at h; cases h
    · rw [hideW_out z2, hout p z2]; exact h
/-- the thing of a handle becomes another one of its kind -/
theorem dom_set {h : Nat} {o o' : WO} (e : w[h]? = some o) (hg : o'.isG = o.isG) (hi : o'.isI = o.isI) {p : Addr} : dom α (w.set h o') p ↔ dom α w p := by
  have hl := lt_of e
  constructor
  · rintro ⟨i, u, e1, z⟩
    by_cases q : h = i
    · subst q
      rw [List.getElem?_set_self hl] at e1
      cases e1
      exact ⟨h, o, e, by rw [← hi, ← hg]; exact z⟩
    · rw [List.getElem?_set_ne q] at e1
      exact ⟨i, u, e1, z⟩
  · rintro ⟨i, u, e1, z⟩
    by_cases q : h = i
    · subst q
      rw [e] at e1; cases e1
      exact ⟨h, o', List.getElem?_set_self hl, by rw [hi, hg]; exact z⟩
    · exact ⟨i, u, by rw [List.getElem?_set_ne q]; exact e1, z⟩
theorem Nok.turn (s : Nok K cl F H0 G ρ σ H w α) {h : Nat} {o o' : WO} {u : HO} (e : w[h]? = some o) (hi : o'.isI = o.isI) (x : ObjW K cl G α w.length (upd H (α.a h) u) h o') (hg : o.isG = false := by rfl) (hg' : o'.isG = false := by rfl) : Nok K cl F H0 G ρ σ (upd H (α.a h) u) (w.set h o') α ∧ Nx G H w α G (upd H (α.a h) u) (w.set h o') α := by
  have hl := lt_of e
  have gg : o'.isG = o.isG := hg'.trans hg.symm
  have hlen : (w.set h o').length = w.length := List.length_set ..
  have out : ∀ p, ¬ dom α (w.set h o') p → upd H (α.a h) u p = H p := fun p z => upd_ne fun q => z ((dom_set e gg hi).mpr (by rw [q]; exact dom_a e hg))
  have back : ∀ {i : Nat} {v : WO}, (w.set h o')[i]? = some v → v.isG = false → ∃ v', w[i]? = some v' ∧ v'.isG = false := fun {i v} hv gv => by
    by_cases q : h = i
    · subst q; exact ⟨o, e, hg⟩
    · rw [List.getElem?_set_ne q] at hv; exact ⟨v, hv, gv⟩
  have inj' : ∀ i j a b, (w.set h o')[i]? = some a → (w.set h o')[j]? = some b → a.isG = false → b.isG = false → α.a i = α.a j → i = j := fun i j a b h1 h2 g1 g2 z => by
    obtain ⟨a', h1, g1⟩ := back h1 g1
    obtain ⟨b', h2, g2⟩ := back h2 g2
    exact s.ww.inj i j a' b' h1 h2 g1 g2 z
  refine ⟨s.chg (by rw [hlen]; exact Nat.le_refl _) (.refl _ _) (fun p z => (dom_set e gg hi).mpr z) (fun p z => .inl ((dom_set e gg hi).mp z)) out inj' fun i v hv => ?_,
    .chg (by rw [hlen]; exact Nat.le_refl _) (.refl _ _) (fun p z => (dom_set e gg hi).mpr z) (fun p z => .inl ((dom_set e gg hi).mp z)) out⟩
  rw [hlen]
  by_cases q : h = i
  · subst q
    rw [List.getElem?_set_self hl] at hv
    cases hv
    exact x
  · rw [List.getElem?_set_ne q] at hv
    have y := s.ww.obj i v hv
    refine y.mono (Ex.refl _) (Nat.le_refl _) (.refl _ _) (lt_of hv) (fun gv => upd_ne fun z => q (s.ww.inj h i o v e hv hg gv z.symm)) fun hi2 => upd_ne fun z => ?_
    have h1 := (y.there (v.gi hi2)).2 hi2
    obtain ⟨t, h2, _, h3⟩ := ((s.ww.obj h o e).there hg).1
    rw [z, h2] at h1
    exact h3 _ (Option.some.inj h1)
/-- a new thing (a list, a dict) comes to the world -/
def Pl.put (α : Pl) (n : Nat) (p x : Addr) : Pl := ⟨fun h => if h = n then p else α.a h, fun h => if h = n then x else α.x h⟩
theorem Pl.put_le {n : Nat} {p x : Addr} : Pl.Le n α (α.put n p x) := fun h hh => ⟨if_neg (Nat.ne_of_lt hh), if_neg (Nat.ne_of_lt hh)⟩
theorem dom_new {o : WO} {p x q : Addr} (hg : o.isG = false) : dom (α.put w.length p x) (w ++ [o]) q ↔ dom α w q ∨ q = p ∨ (o.isI = true ∧ q = x) := by
  constructor
  · rintro ⟨i, u, e1, z⟩
    by_cases hl : i < w.length
    · rw [List.getElem?_append_left hl] at e1
      rw [(Pl.put_le (p := p) (x := x) i hl).1, (Pl.put_le (p := p) (x := x) i hl).2] at z
      exact .inl ⟨i, u, e1, z⟩
    · have : i = w.length := by
        have := lt_of e1
        simp at this; omega
      subst this
      rw [List.getElem?_concat_length] at e1
      cases e1
      rw [show (α.put w.length p x).a w.length = p from if_pos rfl, show (α.put w.length p x).x w.length = x from if_pos rfl] at z
      exact .inr z.2
  · rintro (⟨i, u, e1, z⟩ | z)
    · have hl := lt_of e1
      refine ⟨i, u, by rw [List.getElem?_append_left hl]; exact e1, ?_⟩
      rw [(Pl.put_le (p := p) (x := x) i hl).1, (Pl.put_le (p := p) (x := x) i hl).2]
      exact z
    · refine ⟨w.length, o, List.getElem?_concat_length, hg, ?_⟩
      rw [show (α.put w.length p x).a w.length = p from if_pos rfl, show (α.put w.length p x).x w.length = x from if_pos rfl]
      exact z
theorem Nok.make (s : Nok K cl F H0 G ρ σ H w α) {p x : Addr} {o : WO} (np : H p = none) (nx : o.isI = true → H x = none) (hout : ∀ q, q ≠ p → ¬ (o.isI = true ∧ q = x) → H' q = H q)
    (ob : ObjW K cl G (α.put w.length p x) (w.length + 1) H' w.length o) (hg : o.isG = false := by rfl) : Nok K cl F H0 G ρ σ H' (w ++ [o]) (α.put w.length p x) ∧ Nx G H w α G H' (w ++ [o]) (α.put w.length p x) := by
  have hlen : (w ++ [o]).length = w.length + 1 := by simp
  have hn : w.length ≤ (w ++ [o]).length := by rw [hlen]; omega
  have new : ∀ q, dom (α.put w.length p x) (w ++ [o]) q → dom α w q ∨ H q = none := fun q z => by
    rcases (dom_new hg).mp z with z | z | z
    · exact .inl z
    · rw [z]; exact .inr np
    · rw [z.2]; exact .inr (nx z.1)
  have out : ∀ q, ¬ dom (α.put w.length p x) (w ++ [o]) q → H' q = H q := fun q z => hout q (fun e => z ((dom_new hg).mpr (.inr (.inl e)))) fun e => z ((dom_new hg).mpr (.inr (.inr e)))
  have old : ∀ q, dom α w q → H' q = H q := fun q z => by
    obtain ⟨u, h1, _⟩ := s.ww.there z
    refine hout q (fun e => ?_) fun e => ?_
    · rw [e, np] at h1; cases h1
    · rw [e.2, nx e.1] at h1; cases h1
  refine ⟨s.chg hn Pl.put_le (fun q z => (dom_new hg).mpr (.inl z)) new out (fun h h' o1 o2 h1 h2 g1 g2 e => ?_) fun i v hv => ?_, .chg hn Pl.put_le (fun q z => (dom_new hg).mpr (.inl z)) new out⟩
  · have key : ∀ {j : Nat} {oj : WO}, w[j]? = some oj → oj.isG = false → α.a j ≠ p := fun {j oj} hj gj z => by
      obtain ⟨u, h1, _⟩ := s.ww.there (dom_a hj gj)
      rw [z, np] at h1; cases h1
    have cs : ∀ {j : Nat} {oj : WO}, (w ++ [o])[j]? = some oj → (j < w.length ∧ w[j]? = some oj) ∨ j = w.length := fun {j oj} hj => by
      by_cases c : j < w.length
      · rw [List.getElem?_append_left c] at hj; exact .inl ⟨c, hj⟩
      · right
        have := lt_of hj
        rw [hlen] at this; omega
    rcases cs h1 with ⟨c1, h1⟩ | c1
    · rw [(Pl.put_le (p := p) (x := x) h c1).1] at e
      rcases cs h2 with ⟨c2, h2⟩ | c2
      · rw [(Pl.put_le (p := p) (x := x) h' c2).1] at e
        exact s.ww.inj h h' _ _ h1 h2 g1 g2 e
      · subst c2
        rw [show (α.put w.length p x).a w.length = p from if_pos rfl] at e
        exact absurd e (key h1 g1)
    · subst c1
      rw [show (α.put w.length p x).a w.length = p from if_pos rfl] at e
      rcases cs h2 with ⟨c2, h2⟩ | c2
      · rw [(Pl.put_le (p := p) (x := x) h' c2).1] at e
        exact absurd e.symm (key h2 g2)
      · exact c2.symm
  · rw [hlen]
    by_cases hl : i < w.length
    · rw [List.getElem?_append_left hl] at hv
      exact (s.ww.obj i v hv).mono (Ex.refl _) (by omega) Pl.put_le hl (fun gv => old _ (dom_a hv gv)) fun hi => old _ (dom_x hv hi)
    · have : i = w.length := by
        have := lt_of hv
        rw [hlen] at this; omega
      subst this
      rw [List.getElem?_concat_length] at hv
      cases hv
      exact ob
theorem Nx.dom' (x : Nx G H w α G' H' w' α') (W' : WOk K cl F H0 G' H' α' w') (gh : Ex G' H') {p : Addr} (h : H' p = none) : H p = none := by
  by_cases z : dom α w p
  · rcases x.le p z with z | z
    · obtain ⟨u, h1, _⟩ := W'.there z
      rw [h1] at h; cases h
    · exact absurd h (gh.there z)
  · cases e : H p with
    | none => rfl
    | some o =>
      have := hideW_le p o (x.h p o (by rw [hideW_out z]; exact e))
      rw [this] at h; cases h
theorem gx_hide (W : WOk K cl F H0 G H α w) {g : Hp} (x : Gx g (putW H0 (dom α w) H) G H) : Gx g H0 G (hideW H (dom α w)) := by
  refine ⟨x.g, fun p o h => ?_, fun p o h => ?_, fun p hp => (x.nw p hp).imp id fun h => ?_⟩
  · have z : ¬ dom α w p := fun z => by rw [W.h p z] at h; cases h
    rw [hideW_out z]
    exact x.h p o (by rw [putW_out z]; exact h)
  · have z : ¬ dom α w p := fun z => by rw [W.g p z] at h; cases h
    rw [hideW_out z]
    exact x.gh p o h
  · have z : ¬ dom α w p := fun z => hp (W.g p z)
    rw [putW_out z] at h; exact h
theorem gx_show (W : WOk K cl F H0 G H α w) {g : Hp} (x : Gx g H0 G (hideW H (dom α w))) : Gx g (putW H0 (dom α w) H) G H := by
  refine ⟨x.g, fun p o h => ?_, x.gh.trans hideW_le, fun p hp => (x.nw p hp).imp id fun h => ?_⟩
  · by_cases z : dom α w p
    · rw [putW_in z] at h; exact h
    · rw [putW_out z] at h
      exact hideW_le p o (x.h p o h)
  · have z : ¬ dom α w p := fun z => hp (W.g p z)
    rw [putW_out z]; exact h
theorem Nok.hide (s : Nok K cl F H0 G ρ σ H w α) : Sok K (F.at α w.length) H0 G ρ σ (hideW H (dom α w)) := by
  have W := s.ww
  refine ⟨gx_hide W s.sok.gx, s.sok.len, fun i t ht => ?_, s.sok.apart, s.sok.pins, fun p o h => ?_, fun i p vs h => ?_⟩
  · have q := s.sok.slot i t ht
    generalize σ[i]?.getD none = x at q
    cases q with
    | un => exact .un
    | val h => exact .val h
    | bor h => exact .bor h
    | scr h => exact .scr h
    | pin => exact .pin
    | st h => exact .st h
    | @own d p h1 h2 h3 =>
      obtain ⟨u, hu⟩ := h3.there
      have z : ¬ dom α w p := fun z => by
        rw [putW_in z, hu] at h1; cases h1
      refine .own (by rw [putW_out z] at h1; exact h1) h2 (h3.mono (Ex.refl _) (hideW_out z))
  · have q := s.sok.base p o h
    have z : ¬ dom α w p := fun z => by
      have := W.b p z
      rw [show F.b p = some o from h] at this; cases this
    rw [putW_out z] at q; exact q
  · have q := s.sok.wf i p vs h
    have z : ¬ dom α w p := fun z => W.p p z i vs h
    rw [putW_out z] at q; exact q
theorem Nok.show (s : Sok K (F.at α w.length) H0 G ρ σ (hideW H (dom α w))) (W : WOk K cl F H0 G H α w) : Nok K cl F H0 G ρ σ H w α := by
  refine ⟨⟨gx_show W s.gx, s.len, fun i t ht => ?_, s.apart, s.pins, fun p o h => ?_, fun i p vs h => ?_⟩, W⟩
  · have q := s.slot i t ht
    generalize σ[i]?.getD none = x at q
    cases q with
    | un => exact .un
    | val h => exact .val h
    | bor h => exact .bor h
    | scr h => exact .scr h
    | pin => exact .pin
    | st h => exact .st h
    | @own d p h1 h2 h3 =>
      obtain ⟨u, hu⟩ := h3.there
      have z : ¬ dom α w p := fun z => by
        rw [hideW_in z] at hu; cases hu
      refine .own (by rw [putW_out z]; exact h1) h2 (h3.mono (Ex.refl _) (hideW_out z).symm)
  · have q := s.base p o h
    have z : ¬ dom α w p := fun z => by
      have := W.b p z
      rw [show F.b p = some o from h] at this; cases this
    rw [putW_out z]; exact q
  · have q := s.wf i p vs h
    have z : ¬ dom α w p := fun z => W.p p z i vs h
    rw [putW_out z]; exact q
theorem Nok.h0 (s : Nok K cl F H0 G ρ σ H w α) {p : Addr} (h : H p = none) : H0 p = none := by
  cases e : H0 p with
  | none => rfl
  | some u =>
    have := hideW_le p u (s.hide.gx.h p u e)
    rw [h] at this; cases this
/-- how the world of a caller stands -/
structure WW (K : PySem.W.Frag) (cl : Str → Addr) (G H : Hp) (α : Pl) (w : Wd) : Prop where
  gh : Ex G H
  inj : ∀ h h' o o', w[h]? = some o → w[h']? = some o' → o.isG = false → o'.isG = false → α.a h = α.a h' → h = h'
  obj : ∀ h o, w[h]? = some o → ObjW K cl G α w.length H h o
  g : ∀ p, dom α w p → G p = none
/-- what a call leaves -/
structure Bk (K : PySem.W.Frag) (cl : Str → Addr) (G H : Hp) (w : Wd) (α : Pl) (G' H' : Hp) (w' : Wd) (α' : Pl) : Prop where
  gx : Gx G (hideW H (dom α w)) G' (hideW H' (dom α' w'))
  le : ∀ p, dom α w p → dom α' w' p ∨ G' p ≠ none
  n : w.length ≤ w'.length
  al : Pl.Le w.length α α'
  ww : WW K cl G' H' α' w'
  new : ∀ p, dom α' w' p → hideW H (dom α w) p = none
theorem Nok.ww' (s : Nok K cl F H0 G ρ σ H w α) : WW K cl G H α w := ⟨s.gh, s.ww.inj, s.ww.obj, s.ww.g⟩
theorem Bk.nx (b : Bk K cl G H w α G' H' w' α') : Nx G H w α G' H' w' α' := ⟨b.gx.g, b.gx.h, b.le, b.n, b.al, b.gx.nw⟩
theorem Nok.back (s : Nok K cl F H0 G ρ σ H w α) (b : Bk K cl G H w α G' H' w' α') : Nok K cl F H0 G' ρ σ H' w' α' := by
  have sh := s.hide
  have s1 := (sh.gx' b.gx).handles b.n b.al
  have no : ∀ p, dom α' w' p → H0 p = none := fun p hp => by
    cases e : H0 p with
    | none => rfl
    | some u =>
      have := sh.gx.h p u e
      rw [b.new p hp] at this; cases this
  refine Nok.show s1 ⟨b.ww.inj, b.ww.obj, b.ww.g, fun p hp => ?_, no, fun p hp i vs e => ?_⟩
  · cases e : F.b p with
    | none => rfl
    | some u =>
      have := sh.base p u e
      rw [no p hp] at this; cases this
  · have := sh.wf i p vs e
    rw [no p hp] at this; cases this
end
end DV

namespace DV
open PySem L2 PySem.Spec PyProof.Rows
/-! ### expressions, tests, arguments, over the world -/
abbrev ME := Rho → Wd → Option (PyData × Wd)
abbrev MB := Rho → Wd → Option (Bool × Wd)
abbrev MR := Rho → Wd → Option (Nat × Wd)
abbrev MA := Rho → Wd → Option (List WV × Wd)
abbrev MO := Rho → Wd → Option (Option Int × Wd)
def RN (K : PySem.W.Frag) (m : Md) (Hs : Hp) (w : Wd) (α : Pl) (G H : Hp) (d : PyData) (v : V) : Prop := RM K (fun _ => none) Hs m G H d v ∧ (m = .new → ∀ p, v = .ref p → ¬ dom α w p)
def MN (m : Md) : Prop := m = .val ∨ m = .new
section
variable {K : PySem.W.Frag} {cl : Str → Addr} {F : Fr} {H0 Hs G H G' H' H1 : Hp} {ρ : Rho} {σ : L2.St} {w w' : Wd} {α α' : Pl} {d : PyData} {v : V} {m : Md}
theorem RN.val (h : Rep K G d v) : RN K .val Hs w α G H d v := ⟨h, fun z => by cases z⟩
theorem RN.of (hm : MN m) (W : WOk K cl F H0 G' Hs α w) (h : RM K H1 Hs m G H d v) : RN K m Hs w α G H d v := by
  rcases hm with rfl | rfl
  · exact .val h
  · refine ⟨h, fun _ p e z => ?_⟩
    obtain ⟨p', e1, n, _⟩ := h
    rw [e] at e1; cases e1
    obtain ⟨u, hu, _⟩ := W.there z
    rw [n] at hu; cases hu
theorem RN.start (hm : MN m) (e : ∀ p, Hs p = none → H1 p = none) (h : RN K m Hs w α G H d v) : RN K m H1 w α G H d v := by
  rcases hm with rfl | rfl
  · exact .val h.1
  · obtain ⟨⟨p, e1, n, g, o⟩, q⟩ := h
    exact ⟨⟨p, e1, e p n, g, o⟩, q⟩
end
def tM (K : PySem.W.Frag) (cl : Str → Addr) (m : Md) (f : ME) : TE := fun σ H Q => ∃ F H0 G ρ w α d w', Nok K cl F H0 G ρ σ H w α ∧ f ρ w = some (d, w') ∧ ∀ G' H' α' v, Nx G H w α G' H' w' α' → Nok K cl F H0 G' ρ σ H' w' α' → RN K m H w' α' G' H' d v → Q v H'
def tR (K : PySem.W.Frag) (cl : Str → Addr) (f : MR) : TE := fun σ H Q => ∃ F H0 G ρ w α h w', Nok K cl F H0 G ρ σ H w α ∧ f ρ w = some (h, w') ∧ ∀ G' H' α', Nx G H w α G' H' w' α' → Nok K cl F H0 G' ρ σ H' w' α' → h < w'.length → Q (.ref (α'.a h)) H'
def tTM (K : PySem.W.Frag) (cl : Str → Addr) (f : MB) : TT := fun σ H Q => ∃ F H0 G ρ w α d w', Nok K cl F H0 G ρ σ H w α ∧ f ρ w = some (d, w') ∧ ∀ G' H' α', Nx G H w α G' H' w' α' → Nok K cl F H0 G' ρ σ H' w' α' → Q d H'
def tOM (K : PySem.W.Frag) (cl : Str → Addr) (f : MO) : TO := fun σ H Q => ∃ F H0 G ρ w α d w', Nok K cl F H0 G ρ σ H w α ∧ f ρ w = some (d, w') ∧ ∀ G' H' α', Nx G H w α G' H' w' α' → Nok K cl F H0 G' ρ σ H' w' α' → Q d H'
structure DM (cl : Str → Addr) (X : Cx) (m : Md) (e : Expr) (f : ME) : Prop where
  pe : PE X e (tM X.K cl m f)
structure DR (cl : Str → Addr) (X : Cx) (e : Expr) (f : MR) : Prop where
  pe : PE X e (tR X.K cl f)
structure DTM (cl : Str → Addr) (X : Cx) (e : Expr) (f : MB) : Prop where
  pt : PT X e (tTM X.K cl f)
structure DWM (cl : Str → Addr) (X : Cx) (e : Expr) (f : MB) : Prop where
  pw : PW X e (tTM X.K cl f)
structure DOM (cl : Str → Addr) (X : Cx) (e : Option Expr) (f : MO) : Prop where
  po : PO X e (tOM X.K cl f)
/-! the pure layer within -/
def mL (f : SE) : ME := fun ρ w => (f ρ).map fun d => (d, w)
def mLB (f : SB) : MB := fun ρ w => (f ρ).map fun d => (d, w)
def mLO (f : SO) : MO := fun ρ w => (f ρ).map fun d => (d, w)
section
variable {cl : Str → Addr} {X : Cx} {rm m : Md} {a b c e tg : Expr} {f g h : SE} {t u : SB} {pos p1 apos : Pos} {k : Nat} {x : Str}
theorem m_l (h : DX X m e f) (hm : MN m := by first | exact .inl rfl | exact .inr rfl) : DM cl X m e (mL f) :=
  ⟨h.pe.imp fun σ H Q ⟨F, H0, G, ρ, w, α, d, w', s, e, q⟩ => by
    obtain ⟨d', e1, e2⟩ := map_some e
    cases e2
    exact ⟨_, _, G, ρ, d, s.sok, e1, fun G' H' v gx rr => q G' H' α v (.gx gx) (s.gx' gx) (.of hm s.ww rr)⟩⟩
theorem mt_l (h : DT X e t) : DTM cl X e (mLB t) :=
  ⟨h.pt.imp fun σ H Q ⟨F, H0, G, ρ, w, α, d, w', s, e, q⟩ => by
    obtain ⟨d', e1, e2⟩ := map_some e
    cases e2
    exact ⟨_, _, G, ρ, d, s.sok, e1, fun G' H' gx => q G' H' α (.gx gx) (s.gx' gx)⟩⟩
theorem mo_l {e : Option Expr} {f : SO} (h : DO X e f) : DOM cl X e (mLO f) :=
  ⟨h.po.imp fun σ H Q ⟨F, H0, G, ρ, w, α, d, w', s, e, q⟩ => by
    obtain ⟨d', e1, e2⟩ := map_some e
    cases e2
    exact ⟨_, _, G, ρ, d, s.sok, e1, fun G' H' gx => q G' H' α (.gx gx) (s.gx' gx)⟩⟩
/-- what is never reached -/
def mNever : ME := fun _ _ => none
theorem m_never : DM cl X m e mNever := ⟨⟨fun pins s σ H Q I ⟨F, H0, G, ρ, w, α, d, w', _, e, _⟩ => by cases e⟩⟩
/-- a new thing goes over to G -/
theorem Nok.put {K : PySem.W.Frag} {cl : Str → Addr} {F : Fr} {H0 G H : Hp} {ρ : Rho} {σ : L2.St} {w : Wd} {α : Pl} {p : Addr} {u : HO} (s : Nok K cl F H0 G ρ σ H w α) (hw : ¬ dom α w p) (g : G p = none) (n0 : putW H0 (dom α w) H p = none)
    (no : ∀ (i : Nat) (d : PyData), ρ[i]? = some (Slot.own d) → σ[i]? ≠ some (some (V.ref p))) : Nok K cl F H0 (upd G p u) ρ σ (upd H p u) w α ∧ Ex G (upd G p u) := by
  have gx := s.sok.gx.put (u := u) n0 g
  have ep : putW H0 (dom α w) (upd H p u) = putW H0 (dom α w) H := by
    funext q
    by_cases z : dom α w q
    · rw [putW_in z, putW_in z, upd_ne fun e => hw (by rw [← e]; exact z)]
    · rw [putW_out z, putW_out z]
  refine ⟨⟨⟨by rw [ep]; exact gx, s.sok.len, fun i t ht => ?_, s.sok.apart, fun i d hi => (s.sok.pins i d hi).imp fun a h => h.imp fun vs h => h.imp fun ds ⟨p1, p2, p3, p4⟩ => ⟨p1, p2, p3, p4.mono (Ex.new g)⟩, by rw [ep]; exact s.sok.base, by rw [ep]; exact s.sok.wf⟩,
    ⟨s.ww.inj, fun h o e => (s.ww.obj h o e).mono (Ex.new g) (Nat.le_refl _) (.refl _ _) (lt_of e) (fun hg => upd_ne fun z => hw (by rw [← z]; exact dom_a e hg)) fun hi => upd_ne fun z => hw (by rw [← z]; exact dom_x e hi), fun q hq => ?_, s.ww.b, s.ww.h, s.ww.p⟩⟩, Ex.new g⟩
  · have q := s.sok.slot i t ht
    generalize e : σ[i]?.getD none = x at q
    rw [ep]
    cases q with
    | un => exact .un
    | val h => exact .val (h.mono (Ex.new g))
    | bor h => exact .bor (h.mono (Ex.new g) (Ex.refl _))
    | scr h => exact .scr h
    | pin => exact .pin
    | st h => exact .st h
    | @own d c h1 h2 h3 =>
      have ne : c ≠ p := fun z => no i d ht (by rw [getD_some e, z])
      refine .own h1 ?_ (h3.mono (Ex.new g) (upd_ne ne))
      rw [upd_ne ne]; exact h2
  · rw [upd_ne fun z => hw (by rw [← z]; exact hq)]; exact s.ww.g q hq
theorem Nok.base0 {K : PySem.W.Frag} {cl : Str → Addr} {F : Fr} {H0 G H : Hp} {ρ : Rho} {σ : L2.St} {w w1 : Wd} {α α1 : Pl} {p : Addr} (s : Nok K cl F H0 G ρ σ H w α) (np : H p = none) (wn : ¬ dom α1 w1 p) {Hx : Hp} : putW H0 (dom α1 w1) Hx p = none := by
  rw [putW_out wn]
  cases e2 : H0 p with
  | none => rfl
  | some u =>
    exfalso
    have wp : ¬ dom α w p := fun z => by
      obtain ⟨y, hy, _⟩ := s.ww.there z
      rw [np] at hy; cases hy
    have := s.sok.gx.h p u (by rw [putW_out wp]; exact e2)
    rw [np] at this; cases this
theorem Nok.noOwn {K : PySem.W.Frag} {cl : Str → Addr} {F : Fr} {H0 G H : Hp} {ρ : Rho} {σ : L2.St} {w : Wd} {α : Pl} {p : Addr} (s : Nok K cl F H0 G ρ σ H w α) (np : H p = none) : ∀ (i : Nat) (d : PyData), ρ[i]? = some (Slot.own d) → σ[i]? ≠ some (some (V.ref p)) := fun i d hi e => by
  obtain ⟨a, k1, _, _, k4⟩ := s.sok.own hi
  rw [e] at k1; cases k1
  obtain ⟨u, hu⟩ := k4.there
  rw [np] at hu; cases hu
theorem m_fz {fn : ME} (h : DM cl X .new e fn) : DM cl X .val e fn := ⟨(pe_fz h.pe).imp fun σ H Q ⟨F, H0, G, ρ, w, α, d, w', s, e, q⟩ => ⟨F, H0, G, ρ, w, α, d, w', s, e, fun G' H' α' v x s' rr => by
  obtain ⟨⟨p, rfl, n, g, o⟩, wn⟩ := rr
  have wn := wn rfl p rfl
  obtain ⟨u, hu, z⟩ := o.freeze g
  have no := s.noOwn n
  have n0 := s.base0 (Hx := H') n wn
  have wp : ¬ dom α w p := fun z => by
    obtain ⟨y, hy, _⟩ := s.ww.there z
    rw [n] at hy; cases hy
  have key : ∀ (G2 H2 : Hp) (c : HO), G2 = upd G' p c → (∀ q, q ≠ p → H2 q = H' q) → Ex G' G2 → Nx G H w α G2 H2 w' α' := fun G2 H2 c eg eh xg => by
    refine ⟨x.g.trans xg, fun q o hq => ?_, fun q h => (x.le q h).imp id xg.there, x.n, x.al, fun q hq => ?_⟩
    · have ne : q ≠ p := fun z => by
        subst z
        rw [hideW_out wp, n] at hq; cases hq
      have := x.h q o hq
      by_cases z : dom α' w' q
      · rw [hideW_in z] at this; cases this
      · rw [hideW_out z] at this ⊢; rw [eh q ne]; exact this
    · by_cases z : q = p
      · subst z
        rw [hideW_out wp, n]; exact .inr True.intro
      · rw [eg, upd_ne z] at hq
        exact x.nw q hq
  rcases z with z | ⟨mu, z⟩
  · obtain ⟨s2, eg⟩ := s'.put (u := u) wn g n0 no
    rw [upd_id hu] at s2
    exact .inl (q _ _ _ _ (key _ _ u rfl (fun _ _ => rfl) eg) s2 (.val z))
  · refine .inr ⟨p, u, hu, mu, fun od => ?_⟩
    obtain ⟨s2, eg⟩ := s'.put (u := .frz od u) wn g n0 no
    exact q _ _ _ _ (key _ _ (.frz od u) rfl (fun q ne => upd_ne ne) eg) s2 (.val (z od))⟩⟩
end
/-! ### operators -/
def mOp (F : PyData → PyData → Option PyData) (f g : ME) : ME := fun ρ w => (f ρ w).bind fun x => (g ρ x.2).bind fun y => (F x.1 y.1).map fun d => (d, y.2)
def mUn (F : PyData → Option PyData) (f : ME) : ME := fun ρ w => (f ρ w).bind fun x => (F x.1).map fun d => (d, x.2)
def mT (f : ME) : MB := fun ρ w => (f ρ w).bind fun x => (asB x.1).map fun b => (b, x.2)
def mV (f : ME) : MB := fun ρ w => (f ρ w).bind fun x => (truth x.1).map fun b => (b, x.2)
def mNot (f : MB) : MB := fun ρ w => (f ρ w).map fun x => (!x.1, x.2)
def mAndB (f g : MB) : MB := fun ρ w => (f ρ w).bind fun x => if x.1 = true then g ρ x.2 else some (false, x.2)
def mOrB (f g : MB) : MB := fun ρ w => (f ρ w).bind fun x => if x.1 = true then some (true, x.2) else g ρ x.2
def mIte (t : MB) (f g : ME) : ME := fun ρ w => (t ρ w).bind fun x => if x.1 = true then f ρ x.2 else g ρ x.2
section
variable {cl : Str → Addr} {X : Cx} {rm m : Md} {a b c e tg : Expr} {f g h : ME} {t u : MB} {pos p1 apos : Pos} {k : Nat} {x : Str}
theorem op_twoM {r : R2} {F : PyData → PyData → Option PyData} (hF : OpF X.K m r F) (hm : MN m) {σ : L2.St} {H : Hp} {Q : VK} (q : tM X.K cl m (mOp F f g) σ H Q) : tOp r (tM X.K cl .val f) (tM X.K cl .val g) σ H Q := by
  obtain ⟨Fr, H0, G, ρ, w, α, d, w', s, e, q⟩ := q
  obtain ⟨⟨x, w1⟩, e1, e⟩ := bind_some e
  obtain ⟨⟨y, w2⟩, e2, e⟩ := bind_some e
  obtain ⟨d', hd, e3⟩ := map_some e
  cases e3
  refine ⟨Fr, H0, G, ρ, w, α, x, w1, s, e1, fun G1 H1 α1 v1 n1 s1 r1 => ⟨Fr, H0, G1, ρ, w1, α1, y, w2, s1, e2, fun G2 H2 α2 v2 n2 s2 r2 => ?_⟩⟩
  refine hF G2 H2 x y d v1 v2 Q s2.gh (.val (Rep.mono n2.g r1.1)) (.val r2.1) hd fun G3 H3 v gx r3 => ?_
  have n12 := n1.trans n2
  exact q G3 H3 α2 v (n12.trans (.gx gx)) (s2.gx' gx) ((RN.of hm s2.ww (r3 (fun _ => none))).start hm fun p hp => n12.dom' s2.ww s2.gh hp)
theorem m_op {op : Operator} {r : R2} {F : PyData → PyData → Option PyData} (ho : OpR X (binaryOp op) r) (hF : OpF X.K m r F) (ha : DM cl X .val a f) (hb : DM cl X .val b g) (hm : MN m := by first | exact .inl rfl | exact .inr rfl) : DM cl X m (.BinOp a op b pos) (mOp F f g) :=
  ⟨(pe_op ho ha.pe hb.pe).imp fun _ _ _ q => op_twoM hF hm q⟩
theorem m_cmp {op : CmpOp} {r : R2} {F : PyData → PyData → Option PyData} (ho : OpR X (compareOp op) r) (hF : OpF X.K .val r F) (ha : DM cl X .val a f) (hb : DM cl X .val b g) (hm : behindInMarks op b = false) : DM cl X .val (.Compare a [op] [b] pos) (mOp F f g) :=
  ⟨(pe_cmpR ho ha.pe hb.pe hm).imp fun _ _ _ q => op_twoM hF (.inl rfl) q⟩
theorem tTestM_of {t : TE} {f : ME} (wf : ∀ σ H Q, tM X.K cl .val f σ H Q → t σ H Q) : ∀ σ H Q, tTM X.K cl (mT f) σ H Q → tTest t σ H Q := fun σ H Q ⟨F, H0, G, ρ, w, α, d, w', s, e, q⟩ => by
  obtain ⟨⟨x, w1⟩, e1, e⟩ := bind_some e
  obtain ⟨b, hb, e3⟩ := map_some e
  cases e3
  refine wf σ H _ ⟨F, H0, G, ρ, w, α, x, w1, s, e1, fun G' H' α' v n s' r => ?_⟩
  have hx := asB_some hb
  subst hx
  cases (show Rep X.K G' (.bool d) v from r.1)
  exact ⟨d, rfl, q G' H' α' n s'⟩
theorem mt_cmp {op : CmpOp} {r : R2} {F : PyData → PyData → Option PyData} (ho : OpR X (compareOp op) r) (hF : OpF X.K .val r F) (ha : DM cl X .val a f) (hb : DM cl X .val b g) (hm : behindInMarks op b = false) : DTM cl X (.Compare a [op] [b] pos) (mT (mOp F f g)) :=
  ⟨(pt_cmpR ho ha.pe hb.pe hm).imp (tTestM_of fun _ _ _ q => op_twoM hF (.inl rfl) q)⟩
theorem mt_val (ha : DM cl X .val a f) (he : ∀ whole, isTrue a X.env whole = (do let v ← whole; standAt a.pos; holding [v] (truthy v)) := by intro _; rfl) : DTM cl X a (mV f) :=
  ⟨(pt_truth ha.pe he).imp fun σ H Q ⟨F, H0, G, ρ, w, α, d, w', s, e, q⟩ => by
    obtain ⟨⟨x, w1⟩, e1, e⟩ := bind_some e
    obtain ⟨b, hb, e3⟩ := map_some e
    cases e3
    exact ⟨F, H0, G, ρ, w, α, x, w1, s, e1, fun G' H' α' v n s' r => ⟨d, truth_ok s'.gh (.val r.1) hb, q G' H' α' n s'⟩⟩⟩
theorem mt_not (ha : DTM cl X a t) : DTM cl X (.UnaryOp .Not a pos) (mNot t) :=
  ⟨(pt_not ha.pt).imp fun σ H Q ⟨F, H0, G, ρ, w, α, d, w', s, e, q⟩ => by
    obtain ⟨⟨x, w1⟩, e1, e3⟩ := map_some e
    cases e3
    exact ⟨F, H0, G, ρ, w, α, x, w1, s, e1, fun G' H' α' n s' => q G' H' α' n s'⟩⟩
variable {rest : List Expr}
theorem mw_and1 (ha : DTM cl X a t) : DWM cl X (.BoolOp .And [a] pos) t := ⟨pw_and1 ha.pt⟩
theorem mw_or1 (ha : DTM cl X a t) : DWM cl X (.BoolOp .Or [a] pos) t := ⟨pw_or1 ha.pt⟩
theorem mw_and (ha : DTM cl X a t) (hb : DWM cl X (.BoolOp .And (b :: rest) pos) u) : DWM cl X (.BoolOp .And (a :: b :: rest) pos) (mAndB t u) :=
  ⟨(pw_and ha.pt hb.pw).imp fun σ H Q ⟨F, H0, G, ρ, w, α, d, w', s, e, q⟩ => by
    obtain ⟨⟨x, w1⟩, e1, e⟩ := bind_some e
    refine ⟨F, H0, G, ρ, w, α, x, w1, s, e1, fun G' H' α' n s' => ?_⟩
    cases x with
    | true => exact iteT ⟨F, H0, G', ρ, w1, α', d, w', s', e, fun G2 H2 α2 n2 s2 => q G2 H2 α2 (n.trans n2) s2⟩
    | false =>
      cases e
      exact iteF (q G' H' α' n s')⟩
theorem mw_or (ha : DTM cl X a t) (hb : DWM cl X (.BoolOp .Or (b :: rest) pos) u) : DWM cl X (.BoolOp .Or (a :: b :: rest) pos) (mOrB t u) :=
  ⟨(pw_or ha.pt hb.pw).imp fun σ H Q ⟨F, H0, G, ρ, w, α, d, w', s, e, q⟩ => by
    obtain ⟨⟨x, w1⟩, e1, e⟩ := bind_some e
    refine ⟨F, H0, G, ρ, w, α, x, w1, s, e1, fun G' H' α' n s' => ?_⟩
    cases x with
    | false => exact iteF ⟨F, H0, G', ρ, w1, α', d, w', s', e, fun G2 H2 α2 n2 s2 => q G2 H2 α2 (n.trans n2) s2⟩
    | true =>
      cases e
      exact iteT (q G' H' α' n s')⟩
theorem mt_w (h : DWM cl X e t) : DTM cl X e t := ⟨h.pw.pt⟩
theorem m_if (hc : DTM cl X c t) (ha : DM cl X m a f) (hb : DM cl X m b g) (hm : MN m := by first | exact .inl rfl | exact .inr rfl) : DM cl X m (.IfExp c a b pos) (mIte t f g) :=
  ⟨(pe_ifExp hc.pt ha.pe hb.pe).imp fun σ H Q ⟨F, H0, G, ρ, w, α, d, w', s, e, q⟩ => by
    obtain ⟨⟨x, w1⟩, e1, e⟩ := bind_some e
    refine ⟨F, H0, G, ρ, w, α, x, w1, s, e1, fun G' H' α' n s' => ?_⟩
    cases x with
    | true => exact iteT ⟨F, H0, G', ρ, w1, α', d, w', s', e, fun G2 H2 α2 v n2 s2 rr => q G2 H2 α2 v (n.trans n2) s2 (rr.start hm fun p hp => n.dom' s'.ww s'.gh hp)⟩
    | false => exact iteF ⟨F, H0, G', ρ, w1, α', d, w', s', e, fun G2 H2 α2 v n2 s2 rr => q G2 H2 α2 v (n.trans n2) s2 (rr.start hm fun p hp => n.dom' s'.ww s'.gh hp)⟩⟩
theorem m_ix (ha : DM cl X .val a f) (hb : DM cl X .val b g) (hs : PlainIx b := by intro _ _; rfl) : DM cl X .val (.Subscript a b pos) (mOp oIx f g) :=
  ⟨(pe_ix ix_seq ha.pe hb.pe hs).imp fun _ _ _ q => op_twoM opf_ix (.inl rfl) q⟩
end
/-! ### arguments -/
inductive AK where
  | q | md (m : Md)
inductive RWs (K : PySem.W.Frag) (n : Nat) (α : Pl) (G B : Hp) : List AK → List WV → List V → Prop
  | nil : RWs K n α G B [] [] []
  | q {x : WV} {v : V} {ms : List AK} {ds : List WV} {vs : List V} : RepV K G α n x v → RWs K n α G B ms ds vs → RWs K n α G B (.q :: ms) (x :: ds) (v :: vs)
  | val {d : PyData} {v : V} {ms : List AK} {ds : List WV} {vs : List V} : Rep K G d v → RWs K n α G B ms ds vs → RWs K n α G B (.md .val :: ms) (.d d :: ds) (v :: vs)
  | bor {d : PyData} {v : V} {ms : List AK} {ds : List WV} {vs : List V} : RepB K G B d v → RWs K n α G B ms ds vs → RWs K n α G B (.md .bor :: ms) (.d d :: ds) (v :: vs)
  | scr {d : PyData} {v : V} {ms : List AK} {ds : List WV} {vs : List V} : RepS K B d v → RWs K n α G B ms ds vs → RWs K n α G B (.md .scr :: ms) (.d d :: ds) (v :: vs)
def unD : List WV → List PyData
  | [] => []
  | .d x :: r => x :: unD r
  | .r _ :: r => unD r
section
variable {K : PySem.W.Frag} {n n' : Nat} {α α' : Pl} {G B G' B' : Hp}
theorem RWs.mono (e : Ex G G') (e2 : Ex B B') (hn : n ≤ n') (l : Pl.Le n α α') : ∀ {ms : List AK} {ds : List WV} {vs : List V}, RWs K n α G B ms ds vs → RWs K n' α' G' B' ms ds vs
  | _, _, _, .nil => .nil
  | _, _, _, .q h t => .q (h.mono e hn l) (t.mono e e2 hn l)
  | _, _, _, .val h t => .val (h.mono e) (t.mono e e2 hn l)
  | _, _, _, .bor h t => .bor (h.mono e e2) (t.mono e e2 hn l)
  | _, _, _, .scr h t => .scr (h.mono e2) (t.mono e e2 hn l)
theorem RWs.len : ∀ {ms : List AK} {ds : List WV} {vs : List V}, RWs K n α G B ms ds vs → ds.length = ms.length ∧ vs.length = ms.length
  | _, _, _, .nil => ⟨rfl, rfl⟩
  | _, _, _, .q _ t => ⟨congrArg (· + 1) t.len.1, congrArg (· + 1) t.len.2⟩
  | _, _, _, .val _ t => ⟨congrArg (· + 1) t.len.1, congrArg (· + 1) t.len.2⟩
  | _, _, _, .bor _ t => ⟨congrArg (· + 1) t.len.1, congrArg (· + 1) t.len.2⟩
  | _, _, _, .scr _ t => ⟨congrArg (· + 1) t.len.1, congrArg (· + 1) t.len.2⟩
theorem RWs.vals : ∀ {ms : List AK} {ds : List WV} {vs : List V}, (∀ m ∈ ms, m = .md .val) → RWs K n α G B ms ds vs → RepA K G (unD ds) vs ∧ (unD ds).length = ms.length
  | _, _, _, _, .nil => ⟨.nil, rfl⟩
  | _, _, _, hq, .q _ _ => by cases hq _ List.mem_cons_self
  | _, _, _, hq, .val h t => by
    have z := RWs.vals (fun m hm => hq m (List.mem_cons_of_mem _ hm)) t
    exact ⟨.cons h z.1, congrArg (· + 1) z.2⟩
  | _, _, _, hq, .bor _ _ => by cases hq _ List.mem_cons_self
  | _, _, _, hq, .scr _ _ => by cases hq _ List.mem_cons_self
end
def tAM (K : PySem.W.Frag) (cl : Str → Addr) (ms : List AK) (f : MA) : TA := fun σ H Q => ∃ F H0 G ρ w α ds w', Nok K cl F H0 G ρ σ H w α ∧ f ρ w = some (ds, w') ∧ ∀ G' H' α' vs, Nx G H w α G' H' w' α' → Nok K cl F H0 G' ρ σ H' w' α' → RWs K w'.length α' G' (hideW H' (dom α' w')) ms ds vs → Q vs H'
structure DAM (cl : Str → Addr) (X : Cx) (ms : List AK) (es : List Expr) (f : MA) : Prop where
  pa : PA X es (tAM X.K cl ms f)
def maNil : MA := fun _ w => some ([], w)
def maD (f : ME) (r : MA) : MA := fun ρ w => (f ρ w).bind fun x => (r ρ x.2).map fun y => (.d x.1 :: y.1, y.2)
def maR (f : MR) (r : MA) : MA := fun ρ w => (f ρ w).bind fun x => (r ρ x.2).map fun y => (.r x.1 :: y.1, y.2)
/-- a handle by its name -/
def mSt (i : Nat) : MR := fun ρ w => match ρ[i]? with
  | some (.st h) => some (h, w)
  | _ => none
section
variable {cl : Str → Addr} {X : Cx} {rm m : Md} {a b c e tg : Expr} {es : List Expr} {ms : List AK} {f g h : ME} {r : MA} {t u : MB} {pos p p1 apos : Pos} {k : Nat} {x : Str}
theorem ma_nil : DAM cl X [] [] maNil := ⟨pa_nil.imp fun σ H Q ⟨F, H0, G, ρ, w, α, ds, w', s, e, q⟩ => by
  cases e
  exact q G H α [] .refl s .nil⟩
theorem r_st (i : Nat) (hN : X.N[i]? = some x := by rfl) (hv : Vis X.env.scope x := by first | exact Or.inl rfl | exact Or.inr (Or.inl rfl) | exact Or.inr (Or.inr rfl)) (hd : (x == ("__debug__" : Str)) = false := by decide)
    (hcd : (x == ("__classdict__" : Str)) = false := by decide) : DR cl X (.Name x p) (mSt i) :=
  ⟨(pe_var hN hv hd hcd).imp fun σ H Q ⟨F, H0, G, ρ, w, α, h, w', s, e, q⟩ => by
    unfold mSt at e
    split at e
    · rename_i a hh
      cases e
      have z := s.sok.slot i _ hh
      generalize e2 : σ[i]?.getD none = y at z
      cases z with
      | @st _ a' ha =>
        obtain ⟨h1, h2⟩ := ha
        subst h2
        exact ⟨_, getD_some e2, q G H α .refl s h1⟩
    · cases e⟩
theorem ma_val (he : DM cl X .val e f) (hr : DAM cl X ms es r) (hs : starEach (e :: es) X.env = (false, eval e X.env) :: starEach es X.env := by rfl) : DAM cl X (.md .val :: ms) (e :: es) (maD f r) :=
  ⟨(pa_cons he.pe hr.pa hs).imp fun σ H Q ⟨F, H0, G, ρ, w, α, ds, w', s, e, q⟩ => by
    obtain ⟨⟨h, w1⟩, e1, e⟩ := bind_some e
    obtain ⟨⟨ds', w2⟩, e2, e3⟩ := map_some e
    cases e3
    exact ⟨F, H0, G, ρ, w, α, h, w1, s, e1, fun G1 H1 α1 v n1 s1 r1 => ⟨F, H0, G1, ρ, w1, α1, ds', w2, s1, e2, fun G' H' α' vs n s' ra => q G' H' α' (v :: vs) (n1.trans n) s' (.val (Rep.mono n.g r1.1) ra)⟩⟩⟩
theorem ma_valb (he : DM cl X .val e f) (hr : DAM cl X ms es r) (hs : starEach (e :: es) X.env = (false, eval e X.env) :: starEach es X.env := by rfl) : DAM cl X (.md .bor :: ms) (e :: es) (maD f r) :=
  ⟨(pa_cons he.pe hr.pa hs).imp fun σ H Q ⟨F, H0, G, ρ, w, α, ds, w', s, e, q⟩ => by
    obtain ⟨⟨h, w1⟩, e1, e⟩ := bind_some e
    obtain ⟨⟨ds', w2⟩, e2, e3⟩ := map_some e
    cases e3
    exact ⟨F, H0, G, ρ, w, α, h, w1, s, e1, fun G1 H1 α1 v n1 s1 r1 => ⟨F, H0, G1, ρ, w1, α1, ds', w2, s1, e2, fun G' H' α' vs n s' ra => q G' H' α' (v :: vs) (n1.trans n) s' (.bor (.val (Rep.mono n.g r1.1)) ra)⟩⟩⟩
/-- what an owner reads stays outside of the world -/
theorem hide_base {K : PySem.W.Frag} {cl : Str → Addr} {F : Fr} {H0 G H : Hp} {ρ : Rho} {σ : L2.St} {w : Wd} {α : Pl} (s : Nok K cl F H0 G ρ σ H w α) : Ex F.b (hideW H (dom α w)) := fun p o h => by
  have q := s.sok.gx.h p o (s.sok.base p o h)
  by_cases z : dom α w p
  · rw [s.ww.b p z] at h; cases h
  · rw [hideW_out z]; exact q
/-- a name as it is, lent -/
theorem bor_slot {K : PySem.W.Frag} {cl : Str → Addr} {F : Fr} {H0 G H : Hp} {ρ : Rho} {σ : L2.St} {w : Wd} {α : Pl} {i : Nat} {d : PyData} (s : Nok K cl F H0 G ρ σ H w α) (ed : eB i ρ = some d) : ∃ v, σ[i]? = some (some v) ∧ RepB K G (hideW H (dom α w)) d v := by
  unfold eB at ed
  cases e1 : ρ[i]? with
  | none => rw [e1] at ed; cases ed
  | some t =>
    rw [e1] at ed
    have h := s.sok.slot i t e1
    generalize e2 : σ[i]?.getD none = y at h
    cases t with
    | un => cases ed
    | val d' =>
      cases ed
      cases h with
      | val h => exact ⟨_, getD_some e2, .val h⟩
    | bor d' =>
      cases ed
      cases h with
      | bor h => exact ⟨_, getD_some e2, h.mono (Ex.refl _) (hide_base s)⟩
    | scr _ => cases ed
    | st _ => cases ed
    | own d' =>
      cases ed
      cases h with
      | @own _ a h1 h2 h3 =>
        have z : ¬ dom α w a := fun z => by
          obtain ⟨u, hu, _⟩ := s.ww.there z
          rw [putW_in z, hu] at h1; cases h1
        exact ⟨_, getD_some e2, (h3.mono (Ex.refl _) (hideW_out z)).bor⟩
    | pin d' =>
      cases ed
      obtain ⟨a, vs, ds, p1, p2, rfl, p4⟩ := s.sok.pins i _ e1
      refine ⟨_, p2, .lst ?_ p4⟩
      have := s.sok.gx.h _ _ (s.sok.wf _ _ _ p1)
      by_cases z : dom α w a
      · exact absurd p1 (s.ww.p a z i vs)
      · rw [hideW_out z]; exact this
theorem ma_bor (i : Nat) (hr : DAM cl X ms es r) (hN : X.N[i]? = some x := by rfl) (hv : Vis X.env.scope x := by first | exact Or.inl rfl | exact Or.inr (Or.inl rfl) | exact Or.inr (Or.inr rfl)) (hd : (x == ("__debug__" : Str)) = false := by decide)
    (hcd : (x == ("__classdict__" : Str)) = false := by decide) (hs : starEach (.Name x p :: es) X.env = (false, eval (.Name x p) X.env) :: starEach es X.env := by rfl) : DAM cl X (.md .bor :: ms) (.Name x p :: es) (maD (mL (eB i)) r) :=
  ⟨(pa_cons (pe_var hN hv hd hcd) hr.pa hs).imp fun σ H Q ⟨F, H0, G, ρ, w, α, ds, w', s, e, q⟩ => by
    obtain ⟨⟨h, w1⟩, e1, e⟩ := bind_some e
    obtain ⟨⟨ds', w2⟩, e2, e3⟩ := map_some e
    obtain ⟨d, ed, e4⟩ := map_some e1
    cases e3
    cases e4
    obtain ⟨v, e5, rb⟩ := bor_slot s ed
    exact ⟨v, e5, F, H0, G, ρ, w, α, ds', w2, s, e2, fun G' H' α' vs n s' ra => q G' H' α' (v :: vs) n s' (.bor (rb.mono n.g n.h) ra)⟩⟩
theorem ma_scr (i : Nat) (hr : DAM cl X ms es r) (hN : X.N[i]? = some x := by rfl) (hv : Vis X.env.scope x := by first | exact Or.inl rfl | exact Or.inr (Or.inl rfl) | exact Or.inr (Or.inr rfl)) (hd : (x == ("__debug__" : Str)) = false := by decide)
    (hcd : (x == ("__classdict__" : Str)) = false := by decide) (hs : starEach (.Name x p :: es) X.env = (false, eval (.Name x p) X.env) :: starEach es X.env := by rfl) : DAM cl X (.md .scr :: ms) (.Name x p :: es) (maD (mL (eS i)) r) :=
  ⟨(pa_cons (pe_var hN hv hd hcd) hr.pa hs).imp fun σ H Q ⟨F, H0, G, ρ, w, α, ds, w', s, e, q⟩ => by
    obtain ⟨⟨h, w1⟩, e1, e⟩ := bind_some e
    obtain ⟨⟨ds', w2⟩, e2, e3⟩ := map_some e
    obtain ⟨d, ed, e4⟩ := map_some e1
    cases e3
    cases e4
    unfold eS at ed
    cases e5 : ρ[i]? with
    | none => rw [e5] at ed; cases ed
    | some t =>
      rw [e5] at ed
      have h := s.sok.slot i t e5
      generalize e6 : σ[i]?.getD none = y at h
      cases t with
      | scr d' =>
        cases ed
        cases h with
        | scr h => exact ⟨_, getD_some e6, F, H0, G, ρ, w, α, ds', w2, s, e2, fun G' H' α' vs n s' ra => q G' H' α' _ n s' (.scr (h.mono ((hide_base s).trans n.h)) ra)⟩
      | _ => cases ed⟩
/-! ### displays, functions of the pure layer, built-ins -/
def mTup (r : MA) : ME := fun ρ w => (r ρ w).bind fun x => if (unD x.1).length ≤ sizeLine then some (.tuple (unD x.1), x.2) else none
def mLst (r : MA) : ME := fun ρ w => (r ρ w).bind fun x => if (unD x.1).length ≤ sizeLine then some (.list (unD x.1), x.2) else none
theorem m_tup {x1} (h : DAM cl X ms es r) (hm : ∀ m ∈ ms, m = .md .val) : DM cl X .val (.Tuple es x1 pos) (mTup r) :=
  ⟨(pe_tup h.pa).imp fun σ H Q ⟨F, H0, G, ρ, w, α, d, w', s, e, q⟩ => by
    obtain ⟨⟨ds, w1⟩, e1, e⟩ := bind_some e
    obtain ⟨hl, e⟩ := if_some e
    cases e
    refine ⟨F, H0, G, ρ, w, α, ds, w1, s, e1, fun G' H' α' vs n s' rr => ?_⟩
    have ra := (rr.vals hm).1
    refine ⟨by rw [← ra.len]; exact hl, fun p np => ?_⟩
    have gx := Gx.new (o := .tup vs) s'.gh np
    exact q _ _ _ _ (n.trans (.gx gx)) (s'.gx' gx) (.val (.tup upd_same (ra.mono gx.g)))⟩
theorem m_lst (h : DAM cl X ms es r) (hm : ∀ m ∈ ms, m = .md .val) : DM cl X .new (.List es pos) (mLst r) :=
  ⟨(pe_lst h.pa).imp fun σ H Q ⟨F, H0, G, ρ, w, α, d, w', s, e, q⟩ => by
    obtain ⟨⟨ds, w1⟩, e1, e⟩ := bind_some e
    obtain ⟨hl, e⟩ := if_some e
    cases e
    refine ⟨F, H0, G, ρ, w, α, ds, w1, s, e1, fun G' H' α' vs n s' rr => ?_⟩
    have ra := (rr.vals hm).1
    refine ⟨by rw [← ra.len]; exact hl, fun p np => ?_⟩
    have gx := Gx.mine (o := .lst vs) s'.gh np
    refine q _ _ _ _ (n.trans (.gx gx)) (s'.gx' gx) ⟨⟨p, rfl, n.dom' s'.ww s'.gh np, s'.gh.back np, .lst upd_same ra⟩, fun _ p' e z => ?_⟩
    cases e
    obtain ⟨u, hu, _⟩ := s'.ww.there z
    rw [np] at hu; cases hu⟩
theorem av_nil : ∀ m ∈ ([] : List AK), m = .md .val := fun m hm => absurd hm List.not_mem_nil
theorem av_cons (h : ∀ m ∈ ms, m = .md .val) : ∀ m ∈ AK.md .val :: ms, m = .md .val := fun m hm => (List.mem_cons.mp hm).elim id (h m)
/-- a pure function of values that are made with effects -/
def mF (F : List PyData → Option PyData) (r : MA) : ME := fun ρ w => (r ρ w).bind fun x => (F (unD x.1)).map fun d => (d, x.2)
theorem RepA.bors {K : PySem.W.Frag} {G H : Hp} : ∀ {ds : List PyData} {vs : List V}, RepA K G ds vs → RepBA K G H ds vs
  | _, _, .nil => .nil
  | _, _, .cons h t => .cons (.val h) (RepA.bors t)
theorem callBM_of {rr : List V → Hp → VK → Prop} {Fn : List PyData → Option PyData} (hF : CallF X.K m rr Fn) (hms : ∀ k ∈ ms, k = .md .val) (hm : MN m) : ∀ σ H Q, tM X.K cl m (mF Fn r) σ H Q → tCB rr (tAM X.K cl ms r) σ H Q := fun σ H Q ⟨F, H0, G, ρ, w, α, d, w', s, e, q⟩ => by
  obtain ⟨⟨ds, w1⟩, e1, e⟩ := bind_some e
  obtain ⟨d', hd, e3⟩ := map_some e
  cases e3
  exact ⟨F, H0, G, ρ, w, α, ds, w1, s, e1, fun G' H' α' vs n s' ra => hF G' H' _ d vs Q s'.gh (RepA.bors (ra.vals hms).1) hd fun G2 H2 v gx2 r2 => q G2 H2 α' v (n.trans (.gx gx2)) (s'.gx' gx2) ((RN.of hm s'.ww (r2 (fun _ => none))).start hm fun p hp => n.dom' s'.ww s'.gh hp)⟩
theorem m_callB {rr : List V → Hp → VK → Prop} {Fn : List PyData → Option PyData} {id : String} (hc : CallR X (.builtin id) rr) (hF : CallF X.K m rr Fn) (hms : ∀ k ∈ ms, k = .md .val) (hg : Gl X x) (hm : X.mg x = none) (hv : bootBuiltins x = some (.builtin id)) (ha : DAM cl X ms (e :: es) r) (hmn : MN m := by first | exact .inl rfl | exact .inr rfl) (hn : x ≠ "__name__" := by decide) (hdb : (x == ("__debug__" : Str)) = false := by decide)
    (he : starEach (e :: es) X.env = (false, eval e X.env) :: starEach es X.env := by rfl) (hpl : (backTo pos (starEach es X.env)).any (·.1) = false := by rfl) : DM cl X m (.Call (.Name x p) (e :: es) [] pos) (mF Fn r) :=
  ⟨(pe_callB hc hg hm hv ha.pa hn hdb he hpl).imp (callBM_of hF hms hmn)⟩
theorem m_callTy {rr : List V → Hp → VK → Prop} {Fn : List PyData → Option PyData} {T : String} (hc : CallR X (.type T) rr) (hF : CallF X.K m rr Fn) (hms : ∀ k ∈ ms, k = .md .val) (hg : Gl X x) (hm : X.mg x = none) (hv : bootBuiltins x = some (.type T)) (ha : DAM cl X ms (e :: es) r) (hmn : MN m := by first | exact .inl rfl | exact .inr rfl) (hn : x ≠ "__name__" := by decide) (hdb : (x == ("__debug__" : Str)) = false := by decide)
    (he : starEach (e :: es) X.env = (false, eval e X.env) :: starEach es X.env := by rfl) (hpl : (backTo pos (starEach es X.env)).any (·.1) = false := by rfl) : DM cl X m (.Call (.Name x p) (e :: es) [] pos) (mF Fn r) :=
  ⟨(pe_callTy hc hg hm hv ha.pa hn hdb he hpl).imp (callBM_of hF hms hmn)⟩
/-- a def of the pure layer -/
theorem rms_of {K : PySem.W.Frag} {H0 Hs G H : Hp} : ∀ {ms : List Md} {ds : List PyData} {vs : List V}, (∀ m ∈ ms, m = .val ∨ m = .bor) → ms.length = ds.length → RepA K G ds vs → RMs K H0 Hs G H ms ds vs
  | [], [], _, _, _, .nil => .nil
  | m :: ms, d :: ds, _, am, hl, .cons h t => by
    refine .cons ?_ (rms_of (fun m hm => am m (List.mem_cons_of_mem _ hm)) (Nat.succ.inj hl) t)
    rcases am m List.mem_cons_self with rfl | rfl
    · exact h
    · exact .val h
theorem m_pfn {mm : List Md} {ps : List Str} {Fn : List PyData → Option PyData} (F : Fn1 X.prog X.w X.K X.mg X.base x ps k rm mm Fn) (hr : Room k X.A) (ha : DAM cl X ms (e :: es) r) (hms : ∀ m ∈ ms, m = .md .val) (am : ∀ m ∈ mm, m = .val ∨ m = .bor) (hln : mm.length = (e :: es).length := by rfl) (hlm : mm.length = ms.length := by rfl) (hrm : MN rm := by first | exact Or.inl rfl | exact Or.inr rfl) (hg : Gl X x := by rfl) (hdb : (x == ("__debug__" : Str)) = false := by decide) (he : starEach (e :: es) X.env = (false, eval e X.env) :: starEach es X.env := by rfl) (hpl : (backTo pos (starEach es X.env)).any (·.1) = false := by rfl) :
    DM cl X rm (.Call (.Name x p) (e :: es) [] pos) (mF Fn r) := by
  obtain ⟨f, fd, F, hm, hk, hb⟩ := F
  refine ⟨(pe_call F hr hg hm hk hb .nil pass0 ha.pa hdb he hpl).imp fun σ H Q ⟨Fr, H0, G, ρ, w, α, d, w', s, e, q⟩ => ?_⟩
  obtain ⟨⟨ds, w1⟩, e1, e⟩ := bind_some e
  obtain ⟨d', hd, e3⟩ := map_some e
  cases e3
  refine ⟨Fr, H0, G, ρ, w, α, ds, w1, s, e1, fun G' H' α' vs n s' rr => ?_⟩
  show spD X.K rm mm Fn (vs ++ []) H' Q E0
  rw [List.append_nil]
  obtain ⟨ra, rl⟩ := rr.vals hms
  refine ⟨by rw [rr.len.2, hlm], G', unD ds, d, s'.gh, rms_of am (by rw [rl, hlm]) ra, hd, fun G2 H2 v gx2 r2 => ?_⟩
  exact q G2 H2 α' v (n.trans (.gx gx2)) (s'.gx' gx2) ((RN.of hrm s'.ww r2).start hrm fun p hp => n.dom' s'.ww s'.gh hp)
theorem ab_nil : ∀ m ∈ ([] : List Md), m = .val ∨ m = .bor := fun m hm => absurd hm List.not_mem_nil
theorem ab_val {mm : List Md} (h : ∀ m ∈ mm, m = .val ∨ m = .bor) : ∀ m ∈ Md.val :: mm, m = .val ∨ m = .bor := fun m hm => (List.mem_cons.mp hm).elim (fun e => .inl e) (h m)
theorem ab_bor {mm : List Md} (h : ∀ m ∈ mm, m = .val ∨ m = .bor) : ∀ m ∈ Md.bor :: mm, m = .val ∨ m = .bor := fun m hm => (List.mem_cons.mp hm).elim (fun e => .inr e) (h m)
end
end DV

namespace DV
open PySem L2 PySem.Spec PyProof.Rows
/-! ### values of either kind -/
abbrev MQ := Rho → Wd → Option (WV × Wd)
def tQ (K : PySem.W.Frag) (cl : Str → Addr) (f : MQ) : TE := fun σ H Q => ∃ F H0 G ρ w α x w', Nok K cl F H0 G ρ σ H w α ∧ f ρ w = some (x, w') ∧ ∀ G' H' α' v, Nx G H w α G' H' w' α' → Nok K cl F H0 G' ρ σ H' w' α' → RepV K G' α' w'.length x v → Q v H'
structure DQ (cl : Str → Addr) (X : Cx) (e : Expr) (f : MQ) : Prop where
  pe : PE X e (tQ X.K cl f)
def mQ (f : ME) : MQ := fun ρ w => (f ρ w).map fun x => (.d x.1, x.2)
def mQR (f : MR) : MQ := fun ρ w => (f ρ w).map fun x => (.r x.1, x.2)
def mD (f : MQ) : ME := fun ρ w => (f ρ w).bind fun x => match x.1 with
  | .d d => some (d, x.2)
  | .r _ => none
def mR (f : MQ) : MR := fun ρ w => (f ρ w).bind fun x => match x.1 with
  | .d _ => none
  | .r h => some (h, x.2)
def mVar (i : Nat) : MQ := fun ρ w => match ρ[i]? with
  | some (.val d) => some (.d d, w)
  | some (.st h) => some (.r h, w)
  | _ => none
section
variable {cl : Str → Addr} {X : Cx} {e : Expr} {f : ME} {fr : MR} {fq : MQ} {p : Pos} {x : Str}
theorem q_m (h : DM cl X .val e f) : DQ cl X e (mQ f) := ⟨h.pe.imp fun σ H Q ⟨F, H0, G, ρ, w, α, x, w', s, e, q⟩ => by
  obtain ⟨⟨d, w1⟩, e1, e2⟩ := map_some e
  cases e2
  exact ⟨F, H0, G, ρ, w, α, d, w1, s, e1, fun G' H' α' v n s' r => q G' H' α' v n s' (.d r.1)⟩⟩
theorem q_r (h : DR cl X e fr) : DQ cl X e (mQR fr) := ⟨h.pe.imp fun σ H Q ⟨F, H0, G, ρ, w, α, x, w', s, e, q⟩ => by
  obtain ⟨⟨d, w1⟩, e1, e2⟩ := map_some e
  cases e2
  exact ⟨F, H0, G, ρ, w, α, d, w1, s, e1, fun G' H' α' n s' r => q G' H' α' _ n s' (.r r)⟩⟩
theorem m_q (h : DQ cl X e fq) : DM cl X .val e (mD fq) := ⟨h.pe.imp fun σ H Q ⟨F, H0, G, ρ, w, α, x, w', s, e, q⟩ => by
  obtain ⟨⟨d, w1⟩, e1, e2⟩ := bind_some e
  cases d with
  | d d =>
    cases e2
    refine ⟨F, H0, G, ρ, w, α, _, w1, s, e1, fun G' H' α' v n s' r => ?_⟩
    cases r with
    | d r => exact q G' H' α' v n s' (.val r)
  | r h => cases e2⟩
theorem r_q (h : DQ cl X e fq) : DR cl X e (mR fq) := ⟨h.pe.imp fun σ H Q ⟨F, H0, G, ρ, w, α, x, w', s, e, q⟩ => by
  obtain ⟨⟨d, w1⟩, e1, e2⟩ := bind_some e
  cases d with
  | d d => cases e2
  | r h =>
    cases e2
    refine ⟨F, H0, G, ρ, w, α, _, w1, s, e1, fun G' H' α' v n s' r => ?_⟩
    cases r with
    | r r => exact q G' H' α' n s' r⟩
theorem q_var (i : Nat) (hN : X.N[i]? = some x := by rfl) (hv : Vis X.env.scope x := by first | exact Or.inl rfl | exact Or.inr (Or.inl rfl) | exact Or.inr (Or.inr rfl)) (hd : (x == ("__debug__" : Str)) = false := by decide)
    (hcd : (x == ("__classdict__" : Str)) = false := by decide) : DQ cl X (.Name x p) (mVar i) :=
  ⟨(pe_var hN hv hd hcd).imp fun σ H Q ⟨F, H0, G, ρ, w, α, h, w', s, e, q⟩ => by
    unfold mVar at e
    split at e
    · rename_i a hh
      cases e
      have z := s.sok.slot i _ hh
      generalize e2 : σ[i]?.getD none = y at z
      cases z with
      | val r => exact ⟨_, getD_some e2, q G H α _ .refl s (.d r)⟩
    · rename_i a hh
      cases e
      have z := s.sok.slot i _ hh
      generalize e2 : σ[i]?.getD none = y at z
      cases z with
      | @st _ a' ha =>
        obtain ⟨h1, h2⟩ := ha
        subst h2
        exact ⟨_, getD_some e2, q G H α _ .refl s (.r h1)⟩
    · cases e⟩
/-- any argument -/
def maQ (f : MQ) (r : MA) : MA := fun ρ w => (f ρ w).bind fun x => (r ρ x.2).map fun y => (x.1 :: y.1, y.2)
theorem ma_q {ms : List AK} {es : List Expr} {r : MA} (he : DQ cl X e fq) (hr : DAM cl X ms es r) (hs : starEach (e :: es) X.env = (false, eval e X.env) :: starEach es X.env := by rfl) : DAM cl X (.q :: ms) (e :: es) (maQ fq r) :=
  ⟨(pa_cons he.pe hr.pa hs).imp fun σ H Q ⟨F, H0, G, ρ, w, α, ds, w', s, e, q⟩ => by
    obtain ⟨⟨h, w1⟩, e1, e⟩ := bind_some e
    obtain ⟨⟨ds', w2⟩, e2, e3⟩ := map_some e
    cases e3
    exact ⟨F, H0, G, ρ, w, α, h, w1, s, e1, fun G1 H1 α1 v n1 s1 r1 => ⟨F, H0, G1, ρ, w1, α1, ds', w2, s1, e2, fun G' H' α' vs n s' ra => q G' H' α' (v :: vs) (n1.trans n) s' (.q (r1.mono n.g n.n n.al) ra)⟩⟩⟩
end
/-! ### statements over the world -/
inductive OW where
  | nx (ρ : Rho) | bk (ρ : Rho) | ct (ρ : Rho) | rt (x : WV)
abbrev MS := Rho → Wd → Option (OW × Wd)
inductive RK where
  | md (m : Md) | any
def RV (K : PySem.W.Frag) : RK → Hp → Wd → Pl → Hp → Hp → WV → V → Prop
  | .md m, Hs, w, α, G, H, .d d, v => RN K m Hs w α G H d v
  | .any, _, w, α, G, _, x, v => RepV K G α w.length x v
  | _, _, _, _, _, _, _, _ => False
structure Wx (G : Hp) (w : Wd) (α : Pl) (G' : Hp) (w' : Wd) (α' : Pl) : Prop where
  g : Ex G G'
  le : ∀ p, dom α w p → dom α' w' p ∨ G' p ≠ none
  n : w.length ≤ w'.length
  al : Pl.Le w.length α α'
theorem Wx.refl {G : Hp} {w : Wd} {α : Pl} : Wx G w α G w α := ⟨Ex.refl _, fun _ h => .inl h, Nat.le_refl _, .refl _ _⟩
theorem Wx.ex {G G' : Hp} {w : Wd} {α : Pl} (e : Ex G G') : Wx G w α G' w α := ⟨e, fun _ h => .inl h, Nat.le_refl _, .refl _ _⟩
theorem Wx.trans {G G1 G2 : Hp} {w w1 w2 : Wd} {α α1 α2 : Pl} (a : Wx G w α G1 w1 α1) (b : Wx G1 w1 α1 G2 w2 α2) : Wx G w α G2 w2 α2 :=
  ⟨a.g.trans b.g, fun p h => (a.le p h).elim (b.le p) fun z => .inr (b.g.there z), Nat.le_trans a.n b.n, a.al.trans a.n b.al⟩
theorem Nx.wx {G H G' H' : Hp} {w w' : Wd} {α α' : Pl} (a : Nx G H w α G' H' w' α') : Wx G w α G' w' α' := ⟨a.g, a.le, a.n, a.al⟩
def OutM (K : PySem.W.Frag) (cl : Str → Addr) (rk : RK) (F : Fr) (H0 G : Hp) (w : Wd) (α : Pl) (D : Ends) : OW → Wd → Prop
  | .nx ρ', w' => ∀ G' σ' H' α', Wx G w α G' w' α' → Nok K cl F H0 G' ρ' σ' H' w' α' → D.nx σ' H'
  | .bk ρ', w' => ∀ G' σ' H' α', Wx G w α G' w' α' → Nok K cl F H0 G' ρ' σ' H' w' α' → D.bk σ' H'
  | .ct ρ', w' => ∀ G' σ' H' α', Wx G w α G' w' α' → Nok K cl F H0 G' ρ' σ' H' w' α' → D.ct σ' H'
  | .rt x, w' => ∀ G' H' α' v, Wx G w α G' w' α' → WOk K cl F H0 G' H' α' w' → Gx F.g (putW H0 (dom α' w') H') G' H' → RV K rk H0 w' α' G' H' x v → D.rt v H'
def tSM (K : PySem.W.Frag) (cl : Str → Addr) (rk : RK) (f : MS) : TS := fun D σ H => ∃ F H0 G ρ w α o w', Nok K cl F H0 G ρ σ H w α ∧ f ρ w = some (o, w') ∧ OutM K cl rk F H0 G w α D o w'
structure DSM (cl : Str → Addr) (X : Cx) (rk : RK) (st : Stmt) (f : MS) : Prop where
  ps : PS X st (tSM X.K cl rk f)
structure DBM (cl : Str → Addr) (X : Cx) (rk : RK) (st : List Stmt) (f : MS) : Prop where
  pss : PSs X st (tSM X.K cl rk f)
theorem OutM.grow {K : PySem.W.Frag} {cl : Str → Addr} {rk : RK} {F : Fr} {H0 G G1 : Hp} {w w1 w' : Wd} {α α1 : Pl} {D : Ends} {o : OW} (l : Wx G w α G1 w1 α1) (h : OutM K cl rk F H0 G w α D o w') : OutM K cl rk F H0 G1 w1 α1 D o w' := by
  cases o with
  | nx ρ => exact fun G' σ' H' α' l2 s => h G' σ' H' α' (l.trans l2) s
  | bk ρ => exact fun G' σ' H' α' l2 s => h G' σ' H' α' (l.trans l2) s
  | ct ρ => exact fun G' σ' H' α' l2 s => h G' σ' H' α' (l.trans l2) s
  | rt d => exact fun G' H' α' v l2 => h G' H' α' v (l.trans l2)
/-- a pure statement that does not return -/
def mS (f : SS) : MS := fun ρ w => match f ρ with
  | some (.nx ρ') => some (.nx ρ', w)
  | some (.bk ρ') => some (.bk ρ', w)
  | some (.ct ρ') => some (.ct ρ', w)
  | _ => none
def mNext : MS := fun ρ w => some (.nx ρ, w)
def mSeq (f g : MS) : MS := fun ρ w => (f ρ w).bind fun o => match o.1 with
  | .nx ρ' => g ρ' o.2
  | _ => some o
def mIf (t : MB) (f g : MS) : MS := fun ρ w => (t ρ w).bind fun x => if x.1 = true then f ρ x.2 else g ρ x.2
def mSet (i : Nat) (f : ME) : MS := fun ρ w => (f ρ w).bind fun x => if i < ρ.length then some (.nx (ρ.set i (.val x.1)), x.2) else none
def mOwn (i : Nat) (f : ME) : MS := fun ρ w => (f ρ w).bind fun x => if i < ρ.length then some (.nx (ρ.set i (.own x.1)), x.2) else none
def mPut (i : Nat) (f : MR) : MS := fun ρ w => (f ρ w).bind fun x => if i < ρ.length then some (.nx (ρ.set i (.st x.1)), x.2) else none
def slotV : WV → Slot
  | .d d => .val d
  | .r h => .st h
def mAny (i : Nat) (f : MQ) : MS := fun ρ w => (f ρ w).bind fun x => if i < ρ.length then some (.nx (ρ.set i (slotV x.1)), x.2) else none
def mAsg (f : ME) (g : SG) : MS := fun ρ w => (f ρ w).bind fun x => (g x.1 ρ).map fun ρ' => (.nx ρ', x.2)
def mExpr (f : ME) : MS := fun ρ w => (f ρ w).map fun x => (.nx ρ, x.2)
def mExprQ (f : MQ) : MS := fun ρ w => (f ρ w).map fun x => (.nx ρ, x.2)
def mRet (f : ME) : MS := fun ρ w => (f ρ w).map fun x => (.rt (.d x.1), x.2)
def mRetQ (f : MQ) : MS := fun ρ w => (f ρ w).map fun x => (.rt x.1, x.2)
def mRetOwn (i : Nat) : MS := fun ρ w => match ρ[i]? with
  | some (.own d) => some (.rt (.d d), w)
  | _ => none
def mRetN : MS := fun _ w => some (.rt (.d .none), w)
/-- never reached -/
def mDead : MS := fun _ _ => none
section
variable {K : PySem.W.Frag} {cl : Str → Addr} {F : Fr} {H0 G H G' H' : Hp} {ρ ρ' : Rho} {σ σ' : L2.St} {w w' : Wd} {α α' : Pl}
theorem Nok.setVal {i : Nat} {d : PyData} {v : V} (s : Nok K cl F H0 G ρ σ H w α) (hi : i < ρ.length) (h : Rep K G d v) : Nok K cl F H0 G (ρ.set i (.val d)) (σ.set i (some v)) H w α := ⟨s.sok.setVal hi h, s.ww⟩
theorem Nok.setSt {i h : Nat} (s : Nok K cl F H0 G ρ σ H w α) (hi : i < ρ.length) (hh : h < w.length) : Nok K cl F H0 G (ρ.set i (.st h)) (σ.set i (some (.ref (α.a h)))) H w α :=
  ⟨s.sok.put hi (.st ⟨hh, rfl⟩) (fun d a e => by cases e), s.ww⟩
theorem Nok.setV {i : Nat} {x : WV} {v : V} (s : Nok K cl F H0 G ρ σ H w α) (hi : i < ρ.length) (h : RepV K G α w.length x v) : Nok K cl F H0 G (ρ.set i (slotV x)) (σ.set i (some v)) H w α := by
  cases h with
  | d h => exact s.setVal hi h
  | r h => exact s.setSt hi h
end
section
variable {cl : Str → Addr} {X : Cx} {rk : RK} {m : Md} {st : Stmt} {rest b1 b2 : List Stmt} {fs : SS} {f g : MS} {e c tg : Expr} {fe : ME} {fq : MQ} {fr : MR} {t : MB} {pos pos' : Pos} {x : Str}
theorem ms_dead : DSM cl X rk st mDead := ⟨⟨fun pins s σ H D I ⟨F, H0, G, ρ, w, α, o, w', _, e, _⟩ => by cases e⟩⟩
theorem mb_dead {sts : List Stmt} : DBM cl X rk sts mDead := ⟨⟨fun pins s σ H D I ⟨F, H0, G, ρ, w, α, o, w', _, e, _⟩ => by cases e⟩⟩
theorem mS_of {K : PySem.W.Frag} {rm : Md} : ∀ D σ H, tSM K cl rk (mS fs) D σ H → tS K rm fs D σ H := fun D σ H ⟨F, H0, G, ρ, w, α, o, w', s, e, q⟩ => by
  unfold mS at e
  split at e
  · rename_i ρ' h
    cases e
    exact ⟨_, _, G, ρ, _, s.sok, h, fun G' σ' H' eg s' => q G' σ' H' α (.ex eg) (s.sok' eg s')⟩
  · rename_i ρ' h
    cases e
    exact ⟨_, _, G, ρ, _, s.sok, h, fun G' σ' H' eg s' => q G' σ' H' α (.ex eg) (s.sok' eg s')⟩
  · rename_i ρ' h
    cases e
    exact ⟨_, _, G, ρ, _, s.sok, h, fun G' σ' H' eg s' => q G' σ' H' α (.ex eg) (s.sok' eg s')⟩
  · cases e
theorem ms_l (h : DS X .val st fs) : DSM cl X rk st (mS fs) := ⟨h.ps.imp mS_of⟩
theorem mb_l {sts : List Stmt} (h : DB X .val sts fs) : DBM cl X rk sts (mS fs) := ⟨h.pss.imp mS_of⟩
theorem mb_nil : DBM cl X rk [] mNext := ⟨pss_nil.imp fun D σ H ⟨F, H0, G, ρ, w, α, o, w', s, e, q⟩ => by
  cases e
  exact q G σ H α .refl s⟩
theorem mb_cons (h1 : DSM cl X rk st f) (h2 : DBM cl X rk rest g) : DBM cl X rk (st :: rest) (mSeq f g) := ⟨(pss_cons h1.ps h2.pss).imp fun D σ H ⟨F, H0, G, ρ, w, α, o, w', s, e, q⟩ => by
  obtain ⟨⟨o1, w1⟩, e1, e⟩ := bind_some e
  refine ⟨F, H0, G, ρ, w, α, o1, w1, s, e1, ?_⟩
  cases o1 with
  | nx ρ' => exact fun G' σ' H' α' l s' => ⟨F, H0, G', ρ', w1, α', o, w', s', e, q.grow l⟩
  | bk ρ' => cases e; exact q
  | ct ρ' => cases e; exact q
  | rt d => cases e; exact q⟩
theorem mb_one (h1 : DSM cl X rk st f) : DBM cl X rk [st] f := ⟨pss_one h1.ps⟩
theorem ms_if (hc : DTM cl X c t) (h1 : DBM cl X rk b1 f) (h2 : DBM cl X rk b2 g) : DSM cl X rk (.If c b1 b2 pos) (mIf t f g) :=
  ⟨(ps_if hc.pt h1.pss h2.pss).imp fun D σ H ⟨F, H0, G, ρ, w, α, o, w', s, e, q⟩ => by
    obtain ⟨⟨b, w1⟩, e1, e⟩ := bind_some e
    refine ⟨F, H0, G, ρ, w, α, b, w1, s, e1, fun G' H' α' n s' => ?_⟩
    cases b with
    | true => exact iteT ⟨F, H0, G', ρ, w1, α', o, w', s', e, q.grow n.wx⟩
    | false => exact iteF ⟨F, H0, G', ρ, w1, α', o, w', s', e, q.grow n.wx⟩⟩
theorem ms_set (i : Nat) (hN : X.N.Nodup) (he : DM cl X .val e fe) (hi : X.N[i]? = some x := by rfl) (hx : Loc X.env.scope x := by first | exact Or.inl rfl | exact Or.inr rfl) (hs : swapsWith e (some (.Name x pos')) pos.line X.env = pure false := by rfl)
    (hf : X.fn x = true ∨ X.env.scope.names.lookup x = some .local := by first | exact .inl rfl | exact .inr rfl | assumption) : DSM cl X rk (.Assign [.Name x pos'] e pos) (mSet i fe) :=
  ⟨(ps_set hN hi hx he.pe hs hf).imp fun D σ H ⟨F, H0, G, ρ, w, α, o, w', s, e, q⟩ => by
    obtain ⟨⟨d, w1⟩, e1, e⟩ := bind_some e
    obtain ⟨hl, e⟩ := if_some e
    cases e
    exact ⟨F, H0, G, ρ, w, α, d, w1, s, e1, fun G' H' α' v n s' r => q G' _ H' α' n.wx (s'.setVal hl r.1)⟩⟩
theorem ms_any (i : Nat) (hN : X.N.Nodup) (he : DQ cl X e fq) (hi : X.N[i]? = some x := by rfl) (hx : Loc X.env.scope x := by first | exact Or.inl rfl | exact Or.inr rfl) (hs : swapsWith e (some (.Name x pos')) pos.line X.env = pure false := by rfl)
    (hf : X.fn x = true ∨ X.env.scope.names.lookup x = some .local := by first | exact .inl rfl | exact .inr rfl | assumption) : DSM cl X rk (.Assign [.Name x pos'] e pos) (mAny i fq) :=
  ⟨(ps_set hN hi hx he.pe hs hf).imp fun D σ H ⟨F, H0, G, ρ, w, α, o, w', s, e, q⟩ => by
    obtain ⟨⟨d, w1⟩, e1, e⟩ := bind_some e
    obtain ⟨hl, e⟩ := if_some e
    cases e
    exact ⟨F, H0, G, ρ, w, α, d, w1, s, e1, fun G' H' α' v n s' r => q G' _ H' α' n.wx (s'.setV hl r)⟩⟩
theorem ms_put (i : Nat) (hN : X.N.Nodup) (he : DR cl X e fr) (hi : X.N[i]? = some x := by rfl) (hx : Loc X.env.scope x := by first | exact Or.inl rfl | exact Or.inr rfl) (hs : swapsWith e (some (.Name x pos')) pos.line X.env = pure false := by rfl)
    (hf : X.fn x = true ∨ X.env.scope.names.lookup x = some .local := by first | exact .inl rfl | exact .inr rfl | assumption) : DSM cl X rk (.Assign [.Name x pos'] e pos) (mPut i fr) :=
  ⟨(ps_set hN hi hx he.pe hs hf).imp fun D σ H ⟨F, H0, G, ρ, w, α, o, w', s, e, q⟩ => by
    obtain ⟨⟨d, w1⟩, e1, e⟩ := bind_some e
    obtain ⟨hl, e⟩ := if_some e
    cases e
    exact ⟨F, H0, G, ρ, w, α, d, w1, s, e1, fun G' H' α' n s' hh => q G' _ H' α' n.wx (s'.setSt hl hh)⟩⟩
theorem Nok.setOwn {K : PySem.W.Frag} {F : Fr} {H0 G H G' H' : Hp} {ρ : Rho} {σ : L2.St} {w w1 : Wd} {α α1 : Pl} {i : Nat} {d : PyData} {v : V} (s : Nok K cl F H0 G ρ σ H w α) (s' : Nok K cl F H0 G' ρ σ H' w1 α1) (hl : i < ρ.length) (r : RN K .new H w1 α1 G' H' d v) : Nok K cl F H0 G' (ρ.set i (.own d)) (σ.set i (some v)) H' w1 α1 := by
  obtain ⟨⟨p, rfl, np, g, o⟩, wn⟩ := r
  have wn := wn rfl p rfl
  have n0 : putW H0 (dom α1 w1) H' p = none := s.base0 np wn
  refine ⟨s'.sok.put hl (.own n0 g o) (fun d' a e1 e2 j ee hj h1 h2 => ?_), s'.ww⟩
  cases e2
  obtain ⟨b, k1, _, _, k4⟩ := s.sok.own h1
  obtain ⟨u, hu⟩ := k4.there
  rw [h2] at k1; cases k1
  rw [np] at hu; cases hu
theorem ms_own (i : Nat) (hN : X.N.Nodup) (he : DM cl X .new e fe) (hi : X.N[i]? = some x := by rfl) (hx : Loc X.env.scope x := by first | exact Or.inl rfl | exact Or.inr rfl) (hs : swapsWith e (some (.Name x pos')) pos.line X.env = pure false := by rfl)
    (hf : X.fn x = true ∨ X.env.scope.names.lookup x = some .local := by first | exact .inl rfl | exact .inr rfl | assumption) : DSM cl X rk (.Assign [.Name x pos'] e pos) (mOwn i fe) :=
  ⟨(ps_set hN hi hx he.pe hs hf).imp fun D σ H ⟨F, H0, G, ρ, w, α, o, w', s, e, q⟩ => by
    obtain ⟨⟨d, w1⟩, e1, e⟩ := bind_some e
    obtain ⟨hl, e⟩ := if_some e
    cases e
    exact ⟨F, H0, G, ρ, w, α, d, w1, s, e1, fun G' H' α' v n s' r => q G' _ H' α' n.wx (s.setOwn s' hl r)⟩⟩
theorem tg_of {K : PySem.W.Frag} {F : Fr} {H0 G H : Hp} {ρ ρ' : Rho} {σ : L2.St} {w : Wd} {α : Pl} {gt : SG} {d : PyData} {v : V} (s : Nok K cl F H0 G ρ σ H w α) (r : Rep K G d v) (e : gt d ρ = some ρ') {Q : L2.St → Hp → Prop} (q : ∀ σ', Nok K cl F H0 G ρ' σ' H w α → Q σ' H) : tG K gt v σ H Q :=
  ⟨_, _, G, ρ, d, ρ', s.sok, r, e, fun σ' s2 => q σ' ⟨s2, s.ww⟩⟩
theorem ms_asg {gt : SG} (he : DM cl X .val e fe) (hg : DG X tg gt) (hs : swapsWithSole [tg] e pos.line X.env = pure false := by rfl) (hw : swappedStores [tg] e X.env = pure none := by rfl)
    (h1 : (assignEach [tg] X.env).map (·.2) = [assign tg X.env] := by rfl) : DSM cl X rk (.Assign [tg] e pos) (mAsg fe gt) :=
  ⟨(ps_asg he.pe hg.pg hs hw h1).imp fun D σ H ⟨F, H0, G, ρ, w, α, o, w', s, e, q⟩ => by
    obtain ⟨⟨d, w1⟩, e1, e⟩ := bind_some e
    obtain ⟨ρ', e2, e3⟩ := map_some e
    cases e3
    exact ⟨F, H0, G, ρ, w, α, d, w1, s, e1, fun G' H' α' v n s' r => tg_of s' r.1 e2 fun σ' s2 => q G' σ' H' α' n.wx s2⟩⟩
theorem ms_expr (he : DM cl X m e fe) (hs : swapsWith e none pos.line X.env = pure false := by rfl) : DSM cl X rk (.Expr e pos) (mExpr fe) :=
  ⟨(ps_expr he.pe hs).imp fun D σ H ⟨F, H0, G, ρ, w, α, o, w', s, e, q⟩ => by
    obtain ⟨⟨d, w1⟩, e1, e3⟩ := map_some e
    cases e3
    exact ⟨F, H0, G, ρ, w, α, d, w1, s, e1, fun G' H' α' v n s' r => q G' σ H' α' n.wx s'⟩⟩
theorem ms_exprQ (he : DQ cl X e fq) (hs : swapsWith e none pos.line X.env = pure false := by rfl) : DSM cl X rk (.Expr e pos) (mExprQ fq) :=
  ⟨(ps_expr he.pe hs).imp fun D σ H ⟨F, H0, G, ρ, w, α, o, w', s, e, q⟩ => by
    obtain ⟨⟨d, w1⟩, e1, e3⟩ := map_some e
    cases e3
    exact ⟨F, H0, G, ρ, w, α, d, w1, s, e1, fun G' H' α' v n s' r => q G' σ H' α' n.wx s'⟩⟩
theorem ms_ret (he : DM cl X m e fe) (hm : MN m := by first | exact Or.inl rfl | exact Or.inr rfl) : DSM cl X (.md m) (.Return (some e) pos) (mRet fe) :=
  ⟨(ps_ret he.pe).imp fun D σ H ⟨F, H0, G, ρ, w, α, o, w', s, e, q⟩ => by
    obtain ⟨⟨d, w1⟩, e1, e3⟩ := map_some e
    cases e3
    exact ⟨F, H0, G, ρ, w, α, d, w1, s, e1, fun G' H' α' v n s' r => q G' H' α' v n.wx s'.ww s'.sok.gx (r.start hm fun p hp => s.h0 hp)⟩⟩
theorem ms_retQ (he : DQ cl X e fq) : DSM cl X .any (.Return (some e) pos) (mRetQ fq) :=
  ⟨(ps_ret he.pe).imp fun D σ H ⟨F, H0, G, ρ, w, α, o, w', s, e, q⟩ => by
    obtain ⟨⟨d, w1⟩, e1, e3⟩ := map_some e
    cases e3
    exact ⟨F, H0, G, ρ, w, α, d, w1, s, e1, fun G' H' α' v n s' r => q G' H' α' v n.wx s'.ww s'.sok.gx r⟩⟩
theorem ms_retN : DSM cl X (.md .val) (.Return none pos) mRetN := ⟨ps_retN.imp fun D σ H ⟨F, H0, G, ρ, w, α, o, w', s, e, q⟩ => by
  cases e
  exact q G H α _ .refl s.ww s.sok.gx (.val .non)⟩
theorem ms_retNQ : DSM cl X .any (.Return none pos) mRetN := ⟨ps_retN.imp fun D σ H ⟨F, H0, G, ρ, w, α, o, w', s, e, q⟩ => by
  cases e
  exact q G H α _ .refl s.ww s.sok.gx (.d .non)⟩
theorem Nok.own {K : PySem.W.Frag} {F : Fr} {H0 G H : Hp} {ρ : Rho} {σ : L2.St} {w : Wd} {α : Pl} {i : Nat} {d : PyData} (s : Nok K cl F H0 G ρ σ H w α) (h : ρ[i]? = some (.own d)) : ∃ a, σ[i]? = some (some (.ref a)) ∧ H0 a = none ∧ ¬ dom α w a ∧ G a = none ∧ Own K G H a d := by
  obtain ⟨a, h1, h2, h3, h4⟩ := s.sok.own h
  obtain ⟨u, hu⟩ := h4.there
  have z : ¬ dom α w a := fun z => by
    rw [putW_in z, hu] at h2; cases h2
  exact ⟨a, h1, by rw [putW_out z] at h2; exact h2, z, h3, h4⟩
theorem ms_retOwn (i : Nat) {p : Pos} (hN : X.N[i]? = some x := by rfl) (hv : Vis X.env.scope x := by first | exact Or.inl rfl | exact Or.inr (Or.inl rfl) | exact Or.inr (Or.inr rfl)) (hd : (x == ("__debug__" : Str)) = false := by decide)
    (hcd : (x == ("__classdict__" : Str)) = false := by decide) : DSM cl X (.md .new) (.Return (some (.Name x p)) pos) (mRetOwn i) :=
  ⟨(ps_ret (pe_var hN hv hd hcd)).imp fun D σ H ⟨F, H0, G, ρ, w, α, o, w', s, e, q⟩ => by
    unfold mRetOwn at e
    split at e
    · cases e
      rename_i d h
      obtain ⟨a, h1, h2, h3, h4, h5⟩ := s.own h
      exact ⟨_, h1, q G H α _ .refl s.ww s.sok.gx ⟨⟨a, rfl, h2, h4, h5⟩, fun _ p e => by cases e; exact h3⟩⟩
    · cases e⟩
/-! ### loops -/
def mForGo (g : SG) (b : MS) : List PyData → MS
  | [], ρ, w => some (.nx ρ, w)
  | d :: ds, ρ, w => (g d ρ).bind fun ρ1 => (b ρ1 w).bind fun o => match o.1 with
    | .nx ρ' => mForGo g b ds ρ' o.2
    | .ct ρ' => mForGo g b ds ρ' o.2
    | .bk ρ' => some (.nx ρ', o.2)
    | .rt d => some (.rt d, o.2)
abbrev MI := Rho → Wd → Option (List PyData × Wd)
def tIM (K : PySem.W.Frag) (cl : Str → Addr) (f : MI) : TI := fun σ H R => ∃ F H0 G ρ w α ds w', Nok K cl F H0 G ρ σ H w α ∧ f ρ w = some (ds, w') ∧ ∀ G' H' α' J, Nx G H w α G' H' w' α' → Nok K cl F H0 G' ρ σ H' w' α' → WalkD K F.b G' J ds → R J H'
structure DIM (cl : Str → Addr) (X : Cx) (tg iter : Expr) (f : MI) : Prop where
  pi : PI X tg iter (tIM X.K cl f)
def mSeqI (f : ME) : MI := fun ρ w => (f ρ w).bind fun x => (itemsOf x.1).map fun ds => (ds, x.2)
def mKeysI (f : ME) : MI := fun ρ w => (f ρ w).bind fun x => (keysOf x.1).map fun ds => (ds, x.2)
def mArgsI (F : List PyData → Option (List PyData)) (r : MA) : MI := fun ρ w => (r ρ w).bind fun x => (F (unD x.1)).map fun ds => (ds, x.2)
theorem Nok.fb {K : PySem.W.Frag} {F : Fr} {H0 G H : Hp} {ρ : Rho} {σ : L2.St} {w : Wd} {α : Pl} (s : Nok K cl F H0 G ρ σ H w α) : Ex F.b H := (hide_base s).trans hideW_le
theorem im_val (ha : DM cl X .val e fe) : DIM cl X tg e (mSeqI fe) := ⟨(pi_any ha.pe).imp fun σ H R ⟨F, H0, G, ρ, w, α, ds, w', s, e, q⟩ => by
  obtain ⟨⟨d, w1⟩, e1, e⟩ := bind_some e
  obtain ⟨ds, e2, e3⟩ := map_some e
  cases e3
  exact ⟨F, H0, G, ρ, w, α, d, w1, s, e1, fun G' H' α' v n s' r => any_of s'.gh s'.fb (.val r.1) e2 fun J wk => q G' H' α' J n s' wk⟩⟩
/-- over a parameter -/
def mPar (i : Nat) : ME := fun ρ w => match ρ[i]? with
  | some (.bor d) => some (d, w)
  | some (.val d) => some (d, w)
  | _ => none
theorem im_par (i : Nat) {p : Pos} (hN : X.N[i]? = some x := by rfl) (hv : Vis X.env.scope x := by first | exact Or.inl rfl | exact Or.inr (Or.inl rfl) | exact Or.inr (Or.inr rfl)) (hd : (x == ("__debug__" : Str)) = false := by decide)
    (hcd : (x == ("__classdict__" : Str)) = false := by decide) : DIM cl X tg (.Name x p) (mSeqI (mPar i)) := ⟨(pi_any (pe_var hN hv hd hcd)).imp fun σ H R ⟨F, H0, G, ρ, w, α, ds, w', s, e, q⟩ => by
  obtain ⟨⟨d, w1⟩, e1, e⟩ := bind_some e
  obtain ⟨ds, e2, e3⟩ := map_some e
  cases e3
  unfold mPar at e1
  split at e1
  · rename_i d' hh
    cases e1
    have z := s.sok.slot i _ hh
    generalize e4 : σ[i]?.getD none = y at z
    cases z with
    | bor r => exact ⟨_, getD_some e4, any_of s.gh s.fb r e2 fun J wk => q G H α J .refl s wk⟩
  · rename_i d' hh
    cases e1
    have z := s.sok.slot i _ hh
    generalize e4 : σ[i]?.getD none = y at z
    cases z with
    | val r => exact ⟨_, getD_some e4, any_of s.gh s.fb (.val r) e2 fun J wk => q G H α J .refl s wk⟩
  · cases e1⟩
theorem im_keys (ha : DM cl X .val e fe) : DIM cl X tg e (mKeysI fe) := ⟨(pi_keys ha.pe).imp fun σ H R ⟨F, H0, G, ρ, w, α, ds, w', s, e, q⟩ => by
  obtain ⟨⟨d, w1⟩, e1, e⟩ := bind_some e
  obtain ⟨ds, e2, e3⟩ := map_some e
  cases e3
  refine ⟨F, H0, G, ρ, w, α, d, w1, s, e1, fun G' H' α' v n s' r => ?_⟩
  have r : Rep X.K G' d v := r.1
  have q2 : ∀ J, WalkD X.K F.b G' J ds → R J H' := fun J wk => q G' H' α' J n s' wk
  cases r with
  | @dK a ks es h hk ra =>
    obtain ⟨o, h⟩ := h
    refine ⟨a, o, rfl, .inl ⟨ks, s'.gh _ _ h, q2 _ (WalkD.keys h ?_)⟩⟩
    unfold keysOf at e2
    split at e2
    · rename_i z
      cases z
      exact (noneK hk).elim
    · rename_i z
      cases z
      cases e2
      exact hk
    · cases e2
  | @dT a ks es h hk ra =>
    obtain ⟨o, h⟩ := h
    refine ⟨a, o, rfl, .inr ⟨ks, s'.gh _ _ h, q2 _ (WalkD.keysT h ?_)⟩⟩
    cases e2
    exact hk
  | _ => cases e2⟩
variable {a b c2 : Expr} {r : MA} {p tpos : Pos} {elts : List Expr} {kk : Nat}
theorem im_range1 (hg : Gl X "range") (hm : X.mg "range" = none) (ha : DAM cl X [.md .val] [a] r) (hs : starEach [a] X.env = [(false, eval a X.env)] := by rfl) : DIM cl X tg (.Call (.Name "range" p) [a] [] pos) (mArgsI rng1 r) :=
  ⟨(pi_range1 hg hm ha.pa hs).imp fun σ H R ⟨F, H0, G, ρ, w, α, ds, w', s, e, q⟩ => by
    obtain ⟨⟨l, w1⟩, e1, e⟩ := bind_some e
    obtain ⟨ds, e2, e3⟩ := map_some e
    cases e3
    refine ⟨F, H0, G, ρ, w, α, l, w1, s, e1, fun G' H' α' vs n s' rr => ?_⟩
    cases rr with
    | val r1 t =>
      cases t
      unfold rng1 at e2
      split at e2
      · rename_i z
        cases z
        obtain ⟨⟨h1, h2⟩, rfl⟩ := if_some e2
        cases r1
        exact ⟨_, rfl, h1, h2, q G' H' α' _ n s' WalkD.range⟩
      · cases e2⟩
theorem im_range2 (hg : Gl X "range") (hm : X.mg "range" = none) (ha : DAM cl X [.md .val, .md .val] [a, b] r) (hs : starEach [a, b] X.env = [(false, eval a X.env), (false, eval b X.env)] := by rfl) (hs2 : starEach [b] X.env = [(false, eval b X.env)] := by rfl) :
    DIM cl X tg (.Call (.Name "range" p) [a, b] [] pos) (mArgsI rng2 r) :=
  ⟨(pi_range2 hg hm ha.pa hs hs2).imp fun σ H R ⟨F, H0, G, ρ, w, α, ds, w', s, e, q⟩ => by
    obtain ⟨⟨l, w1⟩, e1, e⟩ := bind_some e
    obtain ⟨ds, e2, e3⟩ := map_some e
    cases e3
    refine ⟨F, H0, G, ρ, w, α, l, w1, s, e1, fun G' H' α' vs n s' rr => ?_⟩
    cases rr with
    | val r1 t =>
      cases t with
      | val r2 t =>
        cases t
        unfold rng2 at e2
        split at e2
        · rename_i z
          cases z
          obtain ⟨h1, rfl⟩ := if_some e2
          cases r1
          cases r2
          exact ⟨_, _, rfl, h1, q G' H' α' _ n s' WalkD.range⟩
        · cases e2⟩
theorem im_enum (hg : Gl X "enumerate") (hm : X.mg "enumerate" = none) (ha : DAM cl X [.md .val] [e] r) (hs : starEach [e] X.env = [(false, eval e X.env)] := by rfl) :
    DIM cl X (.Tuple elts kk tpos) (.Call (.Name "enumerate" p) [e] [] pos) (mArgsI enumI r) :=
  ⟨(pi_enum hg hm ha.pa hs).imp fun σ H R ⟨F, H0, G, ρ, w, α, ds, w', s, e, q⟩ => by
    obtain ⟨⟨l, w1⟩, e1, e⟩ := bind_some e
    obtain ⟨ds, e2, e3⟩ := map_some e
    cases e3
    refine ⟨F, H0, G, ρ, w, α, l, w1, s, e1, fun G' H' α' vs n s' rr => ?_⟩
    cases rr with
    | val r1 t =>
      cases t
      unfold enumI at e2
      split at e2
      · rename_i z
        cases z
        cases e2
        obtain ⟨a, us, rfl, st, ra⟩ := (show RepB X.K G' F.b _ _ from .val r1).seq
        exact ⟨a, us, rfl, .inl (st _ s'.gh s'.fb), q G' H' α' _ n s' (WalkD.enum (fun H2 x y => .inl (st H2 x y)) ra)⟩
      · cases e2⟩
def mFor (fi : MI) (g : SG) (b : MS) : MS := fun ρ w => (fi ρ w).bind fun x => mForGo g b x.1 ρ x.2
theorem ms_for {iter : Expr} {body : List Stmt} {fi : MI} {gt : SG} (hp : PassesOwn (model X.prog X.w) X.A X.env X.xe) (hc : X.calm = true) (hi : DIM cl X tg iter fi) (hg : DG X tg gt) (hb : DBM cl X rk body f)
    (hs : ∀ x, foldedSetIterable iter X.env x = pure x := by intro _; rfl) : DSM cl X rk (.For tg iter body [] pos) (mFor fi gt f) :=
  ⟨(ps_for hp hc hi.pi hg.pg hb.pss hs).imp fun D σ H ⟨F, H0, G, ρ, w, α, o, w', s, e1, q⟩ => by
    obtain ⟨⟨ds, w1⟩, e0, e2⟩ := bind_some e1
    refine ⟨F, H0, G, ρ, w, α, ds, w1, s, e0, fun G1 H1 α1 J n1 s1 wk => ?_⟩
    let St (i : Nat) (σi : L2.St) (Hi : Hp) : Prop := ∃ Gi ρi wi αi, Wx G1 w1 α1 Gi wi αi ∧ Nok X.K cl F H0 Gi ρi σi Hi wi αi ∧ i ≤ ds.length ∧ mForGo gt f (ds.drop i) ρi wi = some (o, w')
    refine ⟨fun i m σi Hi => m = ds.length - i ∧ St i σi Hi, ⟨_, rfl, G1, ρ, w1, α1, .refl, s1, Nat.zero_le _, e2⟩, ?_⟩
    rintro i m σi Hi ⟨rfl, Gi, ρi, wi, αi, lw, si, hi, hr⟩
    have q := q.grow (n1.wx.trans lw)
    by_cases hlt : i < ds.length
    · refine .inr ⟨wk.goes i Gi Hi hlt lw.g si.gh si.fb, St (i + 1), fun σ' H' p => ⟨_, by omega, rfl, p⟩, fun y H' hy => ?_⟩
      have hd := List.getElem?_eq_getElem hlt
      obtain ⟨G3, gx3, rx⟩ := wk.yields i _ Gi Hi y H' hd lw.g si.gh si.fb hy
      rw [List.drop_eq_getElem_cons hlt] at hr
      obtain ⟨ρ1, e1, hr⟩ := bind_some hr
      obtain ⟨⟨o1, w2⟩, e3, hr⟩ := bind_some hr
      refine tg_of (si.gx' gx3) rx e1 fun σ2 s2 => ⟨F, H0, G3, ρ1, wi, αi, o1, w2, s2, e3, ?_⟩
      have l3 : Wx Gi wi αi G3 wi αi := .ex gx3.g
      have lw3 := lw.trans l3
      cases o1 with
      | nx ρ' => exact fun G' σ' H' α' l4 s4 => ⟨G', ρ', w2, α', lw3.trans l4, s4, hlt, hr⟩
      | ct ρ' => exact fun G' σ' H' α' l4 s4 => ⟨G', ρ', w2, α', lw3.trans l4, s4, hlt, hr⟩
      | bk ρ' =>
        cases hr
        exact fun G' σ' H' α' l4 s4 => q G' σ' H' α' (l3.trans l4) s4
      | rt d =>
        cases hr
        exact q.grow l3
    · have ei : i = ds.length := by omega
      subst ei
      rw [List.drop_length] at hr
      cases hr
      exact .inl ⟨wk.stops Gi Hi lw.g si.gh si.fb, q Gi σi Hi αi .refl si⟩⟩
def mWhileGo (t : MB) (b : MS) : Nat → MS
  | 0, _, _ => none
  | n + 1, ρ, w => (t ρ w).bind fun k => if k.1 = true then (b ρ k.2).bind fun o => match o.1 with
    | .nx ρ' => mWhileGo t b n ρ' o.2
    | .ct ρ' => mWhileGo t b n ρ' o.2
    | .bk ρ' => some (.nx ρ', o.2)
    | .rt d => some (.rt d, o.2)
    else some (.nx ρ, k.2)
def mWhile (n : Nat) (t : MB) (b : MS) : MS := mWhileGo t b n
theorem ms_while (n : Nat) {body : List Stmt} (hp : PassesOwn (model X.prog X.w) X.A X.env X.xe) (hc : DTM cl X c t) (hb : DBM cl X rk body f) : DSM cl X rk (.While c body [] pos) (mWhile n t f) :=
  ⟨(ps_while hp hc.pt hb.pss).imp fun D σ H ⟨F, H0, G, ρ, w, α, o, w', s, e, q⟩ => by
    refine ⟨fun m σi Hi => ∃ Gi ρi wi αi, Wx G w α Gi wi αi ∧ Nok X.K cl F H0 Gi ρi σi Hi wi αi ∧ mWhileGo t f m ρi wi = some (o, w'), ⟨n, G, ρ, w, α, .refl, s, e⟩, ?_⟩
    rintro m σi Hi ⟨Gi, ρi, wi, αi, lw, si, hr⟩
    cases m with
    | zero => cases hr
    | succ m =>
      obtain ⟨⟨k, w1⟩, e1, hr⟩ := bind_some hr
      refine ⟨F, H0, Gi, ρi, wi, αi, k, w1, si, e1, fun G2 H2 α2 n2 s2 => ?_⟩
      have q := q.grow (lw.trans n2.wx)
      cases k with
      | false =>
        cases hr
        exact iteF (q G2 σi H2 α2 .refl s2)
      | true =>
        refine iteT ?_
        obtain ⟨⟨o1, w2⟩, e2, hr⟩ := bind_some (show _ = some (o, w') from hr)
        refine ⟨fun σ' H' => ∃ Gj ρj wj αj, Wx G w α Gj wj αj ∧ Nok X.K cl F H0 Gj ρj σ' H' wj αj ∧ mWhileGo t f m ρj wj = some (o, w'), fun σ' H' ⟨Gj, ρj, wj, αj, p⟩ => ⟨m, Nat.lt_succ_self _, Gj, ρj, wj, αj, p⟩, F, H0, G2, ρi, w1, α2, o1, w2, s2, e2, ?_⟩
        have lw2 := lw.trans n2.wx
        cases o1 with
        | nx ρ' => exact fun G' σ' H' α' l s4 => ⟨G', ρ', w2, α', lw2.trans l, s4, hr⟩
        | ct ρ' => exact fun G' σ' H' α' l s4 => ⟨G', ρ', w2, α', lw2.trans l, s4, hr⟩
        | bk ρ' =>
          cases hr
          exact fun G' σ' H' α' l s4 => q G' σ' H' α' l s4
        | rt d =>
          cases hr
          exact q⟩
end
end DV

namespace DV
open PySem L2 PySem.Spec PyProof.Rows
section
variable {K : PySem.W.Frag} {cl : Str → Addr} {F : Fr} {H0 G H G' H' : Hp} {ρ ρ' : Rho} {σ σ' : L2.St} {w w' : Wd} {α α' : Pl}
theorem Bk.of (n : Nx G H w α G' H' w' α') (W : WW K cl G' H' α' w') : Bk K cl G H w α G' H' w' α' := by
  refine ⟨⟨n.g, n.h, fun p o h => ?_, n.nw⟩, n.le, n.n, n.al, W, fun p hp => ?_⟩
  · have z : ¬ dom α' w' p := fun z => by rw [W.g p z] at h; cases h
    rw [hideW_out z]; exact W.gh p o h
  · cases e : hideW H (dom α w) p with
    | none => rfl
    | some o =>
      have := n.h p o e
      rw [hideW_in hp] at this; cases this
/-- a new thing that is no part of the world is written -/
theorem Nx.mut {D : Addr} {u : HO} (n : Nx G H w α G' H' w' α') (hD : H D = none) : Nx G H w α G' (upd H' D u) w' α' := by
  refine ⟨n.g, fun p o h => ?_, n.le, n.n, n.al, n.nw⟩
  have ne : p ≠ D := fun z => by
    subst z
    have := hideW_le p o h
    rw [hD] at this; cases this
  have := n.h p o h
  by_cases z : dom α' w' p
  · rw [hideW_in z] at this; cases this
  · rw [hideW_out z] at this ⊢
    rw [upd_ne ne]; exact this
theorem WW.mut {D : Addr} {u : HO} (W : WW K cl G H α w) (hD : G D = none) (hd : ¬ dom α w D) : WW K cl G (upd H D u) α w := by
  refine ⟨fun p o h => ?_, W.inj, fun h o e => ?_, W.g⟩
  · have ne : p ≠ D := fun z => by subst z; rw [hD] at h; cases h
    rw [upd_ne ne]; exact W.gh p o h
  · exact (W.obj h o e).mono (Ex.refl _) (Nat.le_refl _) (.refl _ _) (lt_of e) (fun hg => upd_ne fun z => hd (by rw [← z]; exact dom_a e hg)) fun hi => upd_ne fun z => hd (by rw [← z]; exact dom_x e hi)
theorem Nok.wipe (s : Nok K cl F H0 G ρ σ H w α) (vs : List Nat) : Nok K cl F H0 G (wipeR ρ vs) (L2.wipe σ vs) H w α := ⟨s.sok.wipe vs, s.ww⟩
end
/-! ### comprehensions with effects -/
structure DTMs (cl : Str → Addr) (X : Cx) (ifs : List Expr) (f : MB) : Prop where
  pts : PTs X ifs (tTM X.K cl f)
section
variable {cl : Str → Addr} {X : Cx} {c tg elt iter : Expr} {t : MB} {f : ME} {fi : MI} {g : SG} {pos : Pos} {ifs : List Expr} {scope : Scope} {own : List (Str × Nat)}
theorem mts_l {tb : SB} (h : DTs X ifs tb) : DTMs cl X ifs (mLB tb) :=
  ⟨h.pts.imp fun σ H Q ⟨F, H0, G, ρ, w, α, d, w', s, e, q⟩ => by
    obtain ⟨d', e1, e2⟩ := map_some e
    cases e2
    exact ⟨_, _, G, ρ, d, s.sok, e1, fun G' H' gx => q G' H' α (.gx gx) (s.gx' gx)⟩⟩
theorem mts_one (h : DTM cl X c t) : DTMs cl X [c] t := ⟨pts_one h.pt⟩
def mLcGo (g : SG) (t : MB) (e : ME) (ρ : Rho) : List PyData → Wd → Option (List PyData × Wd)
  | [], w => some ([], w)
  | d :: ds, w => (g d ρ).bind fun ρ1 => (t ρ1 w).bind fun k => if k.1 = true then (e ρ1 k.2).bind fun y => (mLcGo g t e ρ ds y.2).map fun z => (y.1 :: z.1, z.2) else mLcGo g t e ρ ds k.2
def mLc (fi : MI) (g : SG) (t : MB) (e : ME) (vs : List Nat) : ME := fun ρ w => (fi ρ w).bind fun x => (mLcGo g t e (wipeR ρ vs) x.1 x.2).bind fun y => if y.1.length ≤ sizeLine then some (.list y.1, y.2) else none
theorem lc_loopM {K : PySem.W.Frag} {F : Fr} {H0 G H : Hp} {ρ : Rho} {σ : L2.St} {w w' : Wd} {α : Pl} {vs : List Nat} {J : It} {ds ys : List PyData} {D : Addr} {Q : V → Hp → Prop}
    (s : Nok K cl F H0 G ρ σ H w α) (wk : WalkD K F.b G J ds) (hys : mLcGo g t f (wipeR ρ vs) ds w = some (ys, w')) (hl : ys.length ≤ sizeLine) (hD : H D = none)
    (q : ∀ G' H' α' v, Nx G H w α G' H' w' α' → Nok K cl F H0 G' ρ σ H' w' α' → RN K .new H w' α' G' H' (.list ys) v → Q v H') :
    ∃ W : Nat → Nat → Hp → Prop, (∃ m, W 0 m (upd H D (.lst []))) ∧ ∀ i m H, W i m H →
      (J.stop i H ∧ Q (.ref D) H) ∨ (J.go i H ∧ ∃ Nx : Hp → Prop, (∀ H', Nx H' → ∃ m', m' < m ∧ W (i + 1) m' H') ∧ ∀ x H', J.yld i H x H' → tGw K vs g x (L2.wipe σ vs) H' fun σ2 H2 => L2.wipe σ2 vs = L2.wipe σ vs ∧ tTM K cl t σ2 H2 fun b H3 =>
        if b = true then tM K cl .val f σ2 H3 fun y H4 => ∃ acc, H4 D = some (.lst acc) ∧ acc.length < sizeLine ∧ Nx (upd H4 D (.lst (acc ++ [y]))) else Nx H3) := by
  have gD0 : G D = none := s.gh.back hD
  have dD0 : ¬ dom α w D := fun z => by
    obtain ⟨u, hu, _⟩ := s.ww.there z
    rw [hD] at hu; cases hu
  let St (i : Nat) (Hi : Hp) : Prop := ∃ Gi wi αi done rest us, Nx G H w α Gi Hi wi αi ∧ WW K cl Gi Hi αi wi ∧ Gi D = none ∧ ¬ dom αi wi D ∧ Hi D = some (.lst us) ∧ RepA K Gi done us ∧ ys = done ++ rest ∧ i ≤ ds.length ∧ mLcGo g t f (wipeR ρ vs) (ds.drop i) wi = some (rest, w')
  refine ⟨fun i m Hi => m = ds.length - i ∧ St i Hi, ⟨_, rfl, G, w, α, [], ys, [], Nx.refl.mut hD, s.ww'.mut gD0 dD0, gD0, dD0, upd_same, .nil, rfl, Nat.zero_le _, hys⟩, ?_⟩
  rintro i m Hi ⟨rfl, Gi, wi, αi, done, rest, us, nx, W, gD, dD, eD, ra, ey, hi, hr⟩
  have si := s.back (Bk.of nx W)
  by_cases hlt : i < ds.length
  · refine .inr ⟨wk.goes i Gi Hi hlt nx.g si.gh si.fb, St (i + 1), fun H' p => ⟨_, by omega, rfl, p⟩, fun x H' hy => ?_⟩
    have hd := List.getElem?_eq_getElem hlt
    obtain ⟨G3, gx3, rx⟩ := wk.yields i _ Gi Hi x H' hd nx.g si.gh si.fb hy
    rw [List.drop_eq_getElem_cons hlt] at hr
    obtain ⟨ρ1, e1, hr⟩ := bind_some hr
    obtain ⟨⟨k, w4⟩, e2, hr⟩ := bind_some hr
    have s3 := (si.wipe vs).gx' gx3
    refine ⟨_, _, G3, _, _, ρ1, s3.sok, rx, e1, fun σ2 l2 k2 s2 => ⟨?_, ?_⟩⟩
    · rw [wipe_eq vs (L2.wipe σ vs) σ2 l2 k2]
      exact wipe_eq vs σ (L2.wipe σ vs) (wipe_length _ _) fun j hj => wipe_out hj
    · have n3 := Nx.gx (w := wi) (α := αi) gx3
      -- what the accumulator keeps over a step
      have keep : ∀ {G' H' : Hp} {w2 : Wd} {α2 : Pl}, Nx Gi Hi wi αi G' H' w2 α2 → G' D = none ∧ H' D = some (.lst us) ∧ ¬ dom α2 w2 D := fun {G' H' w2 α2} n2 => by
        have h1 := n2.h D (.lst us) (by rw [hideW_out dD]; exact eD)
        have z : ¬ dom α2 w2 D := fun z => by rw [hideW_in z] at h1; cases h1
        rw [hideW_out z] at h1
        refine ⟨?_, h1, z⟩
        cases e : G' D with
        | none => rfl
        | some u =>
          rcases n2.nw D (by rw [e]; simp) with y | y
          · exact absurd gD y
          · rw [hideW_out dD, eD] at y; exact (show False from y).elim
      refine ⟨F, H0, G3, ρ1, wi, αi, k, w4, ⟨s2, s3.ww⟩, e2, fun G4 H4 α4 n4 s4 => ?_⟩
      have n34 := n3.trans n4
      cases k with
      | false =>
        obtain ⟨k1, k2, k3⟩ := keep n34
        exact iteF ⟨G4, w4, α4, done, rest, us, nx.trans n34, s4.ww', k1, k3, k2, ra.mono n34.g, ey, hlt, hr⟩
      | true =>
        refine iteT ?_
        obtain ⟨⟨y, w5⟩, e3, hr⟩ := bind_some (show _ = some (rest, w') from hr)
        obtain ⟨⟨r2, w6⟩, e4, hr⟩ := map_some hr
        cases hr
        refine ⟨F, H0, G4, ρ1, w4, α4, y, w5, s4, e3, fun G5 H5 α5 v n5 s5 r5 => ?_⟩
        have n35 := n34.trans n5
        obtain ⟨k1, k2, k3⟩ := keep n35
        refine ⟨us, k2, ?_, G5, w5, α5, done ++ [y], r2, us ++ [v], (nx.trans n35).mut hD, s5.ww'.mut k1 k3, k1, k3, upd_same, (ra.mono n35.g).app (.cons r5.1 .nil), by rw [ey]; simp, hlt, e4⟩
        rw [← ra.len]
        have : ys.length = done.length + (r2.length + 1) := by rw [ey]; simp
        omega
  · have ei : i = ds.length := by omega
    subst ei
    rw [List.drop_length] at hr
    cases hr
    refine .inl ⟨wk.stops Gi Hi nx.g si.gh si.fb, q Gi Hi αi _ nx si ⟨⟨D, rfl, hD, gD, .lst eD ?_⟩, fun _ p e => by cases e; exact dD⟩⟩
    rw [ey, List.append_nil]; exact ra
theorem m_lc {vs : List Nat} (hc : X.calm = true) (hN : X.N.Nodup) (hvs : own.map (·.2) = vs) (hi : DIM cl X tg iter fi) (ok : BlkOk X.N X.env.scope scope own)
    (hg : ∀ (s : Shared) (H : Hp) (C : Addr) (cl : List (Str × Addr)) (fp : List Addr), DGw (X.blk s H scope (compEnvC scope cl C X.env) fp) vs tg g)
    (ht : ∀ (s : Shared) (H : Hp) (C : Addr) (c2 : List (Str × Addr)) (fp : List Addr), DTMs cl (X.blk s H scope (compEnvC scope c2 C X.env) fp) ifs t)
    (he : ∀ (s : Shared) (H : Hp) (C : Addr) (c2 : List (Str × Addr)) (fp : List Addr), DM cl (X.blk s H scope (compEnvC scope c2 C X.env) fp) .val elt f)
    (hs : ∀ x, foldedSetIterable iter X.env x = pure x := by intro _; rfl) : DM cl X .new (.ListComp elt [⟨tg, iter, ifs, 0⟩] scope pos) (mLc fi g t f vs) := by
  subst hvs
  exact ⟨(pe_lc hc hN hi.pi ok (fun s H C cl fp => (hg s H C cl fp).pg) (fun s H C cl fp => (ht s H C cl fp).pts) (fun s H C cl fp => (he s H C cl fp).pe) hs).imp fun σ H Q ⟨F, H0, G, ρ, w, α, d, w', s, ed, q⟩ => by
    obtain ⟨⟨ds, w1⟩, e1, ed⟩ := bind_some ed
    obtain ⟨⟨ys, w2⟩, e2, ed⟩ := bind_some ed
    obtain ⟨hl, e3⟩ := if_some ed
    cases e3
    refine ⟨F, H0, G, ρ, w, α, ds, w1, s, e1, fun G1 H1 α1 J n1 s1 wk => fun D hD => ?_⟩
    exact lc_loopM s1 wk e2 hl hD fun G' H' α' v n2 s2 r => q G' H' α' v (n1.trans n2) s2 (r.start (.inr rfl) fun p hp => n1.dom' s1.ww s1.gh hp)⟩
end
/-! ### defs over the world -/
def slotsW : List AK → List WV → Rho
  | .md .bor :: ms, .d d :: ds => .bor d :: slotsW ms ds
  | .md .scr :: ms, .d d :: ds => .scr d :: slotsW ms ds
  | _ :: ms, x :: ds => slotV x :: slotsW ms ds
  | _, _ => []
abbrev MF := List WV → Wd → Option (WV × Wd)
def endM (rk : RK) : OW → Option WV
  | .rt x => some x
  | .nx _ => match rk with
    | .md .val => some (.d .none)
    | .any => some (.d .none)
    | _ => none
  | _ => none
def runW (n : Nat) (rk : RK) (ms : List AK) (f : MS) : MF := fun ds w =>
  if ds.length = ms.length then (f (slotsW ms ds ++ List.replicate (n - ds.length) .un) w).bind fun o => (endM rk o.1).map fun x => (x, o.2) else none
def spW (K : PySem.W.Frag) (cl : Str → Addr) (rk : RK) (ms : List AK) (Fn : MF) : Sp := fun vs H Q _ =>
  vs.length = ms.length ∧ ∃ G w α ds x w', WW K cl G H α w ∧ RWs K w.length α G (hideW H (dom α w)) ms ds vs ∧ Fn ds w = some (x, w') ∧ ∀ G' H' α' v, Bk K cl G H w α G' H' w' α' → RV K rk (hideW H (dom α w)) w' α' G' H' x v → Q v H'
theorem slotsW_ok {K : PySem.W.Frag} {n : Nat} {α : Pl} {G B H0 H : Hp} : ∀ {ms : List AK} {ds : List WV} {vs : List V}, RWs K n α G B ms ds vs → (slotsW ms ds).length = vs.length ∧
    ∀ (i : Nat) (s : Slot), (slotsW ms ds)[i]? = some s → SlotOk K (fun h a => h < n ∧ a = α.a h) B H0 G H s ((vs.map some)[i]?.getD none) ∧ (∀ d, s ≠ .own d) ∧ ∀ d, s ≠ .pin d
  | _, _, _, .nil => ⟨rfl, fun i s h => by simp [slotsW] at h⟩
  | _, _, _, .q (x := x) h t => by
    obtain ⟨l, q⟩ := slotsW_ok t
    refine ⟨?_, fun i s hs => ?_⟩
    · cases x <;> exact congrArg (· + 1) l
    · cases h with
      | d h =>
        cases i with
        | zero => cases hs; exact ⟨.val h, ⟨fun d e => (by cases e), fun d e => (by cases e)⟩⟩
        | succ i => exact q i s hs
      | r h =>
        cases i with
        | zero => cases hs; exact ⟨.st ⟨h, rfl⟩, ⟨fun d e => (by cases e), fun d e => (by cases e)⟩⟩
        | succ i => exact q i s hs
  | _, _, _, .val h t => by
    obtain ⟨l, q⟩ := slotsW_ok t
    refine ⟨congrArg (· + 1) l, fun i s hs => ?_⟩
    cases i with
    | zero => cases hs; exact ⟨.val h, ⟨fun d e => (by cases e), fun d e => (by cases e)⟩⟩
    | succ i => exact q i s hs
  | _, _, _, .bor h t => by
    obtain ⟨l, q⟩ := slotsW_ok t
    refine ⟨congrArg (· + 1) l, fun i s hs => ?_⟩
    cases i with
    | zero => cases hs; exact ⟨.bor h, ⟨fun d e => (by cases e), fun d e => (by cases e)⟩⟩
    | succ i => exact q i s hs
  | _, _, _, .scr h t => by
    obtain ⟨l, q⟩ := slotsW_ok t
    refine ⟨congrArg (· + 1) l, fun i s hs => ?_⟩
    cases i with
    | zero => cases hs; exact ⟨.scr h, ⟨fun d e => (by cases e), fun d e => (by cases e)⟩⟩
    | succ i => exact q i s hs
theorem fn_okW {P : Program} {w : World} {K : PySem.W.Frag} {mg : Str → Option Value} {base : Heap} {cl : Str → Addr} {x qual : Str} {st : Stmt} {f : Addr} {fd : FuncData} {N ps : List Str} {k n : Nat} {ms : List AK} {rk : RK} {b : MS} (F : Fun K x qual st f fd) (S : FnScope N ps (defScope st))
    (hm : ms.length = ps.length) (hn : N.length = n)
    (body : ∀ (cdv : Value) (A : Around) (outer : List Env) (s : Shared) (H : Hp) (E : XK), Room k (A.deeper (PyProof.Rows.envOfC qual (defScope st) s.heap.objs.size f cdv)) → DBM cl (cxOf CX0 P w K mg base N qual (defScope st) f cdv A outer s H E).nox rk (defBody st) b) :
    FnOk P w K mg base CX0 (k + 1) f fd ps (spW K cl rk ms (runW n rk ms b)) := by
  subst hn
  refine F.ok S (fun vs H Q E h => h.1.trans hm) fun cdv A outer s H vs Q E hr h => ?_
  obtain ⟨hl, G, w0, α, ds, x0, w', W, ra, hF, q⟩ := h
  refine ⟨_, (body cdv A outer s H E hr).pss, ?_⟩
  have hpl : ps.length ≤ N.length := by have := congrArg List.length S.pre; rw [List.length_take] at this; omega
  obtain ⟨hl2, hF⟩ := ite_some hF
  obtain ⟨⟨o, w2⟩, e1, e2⟩ := bind_some hF
  obtain ⟨x1, e3, e4⟩ := map_some e2
  cases e4
  have dv : ds.length = vs.length := hl2.trans hl.symm
  have pe : putW (hideW H (dom α w0)) (dom α w0) H = H := by
    funext p
    by_cases z : dom α w0 p
    · rw [putW_in z]
    · rw [putW_out z, hideW_out z]
  have hG : Ex G (hideW H (dom α w0)) := fun p o h => by
    have z : ¬ dom α w0 p := fun z => by rw [W.g p z] at h; cases h
    rw [hideW_out z]; exact W.gh p o h
  obtain ⟨l1, so⟩ := slotsW_ok (H0 := H) (H := H) ra
  let Fr0 : Fr := ⟨G, hideW H (dom α w0), fun _ => none, fun _ _ => False⟩
  have WK : WOk K cl Fr0 (hideW H (dom α w0)) G H α w0 := ⟨W.inj, W.obj, W.g, fun p hp => hideW_in hp, fun p hp => hideW_in hp, fun p hp i vs e => by cases e⟩
  have start : Nok K cl Fr0 (hideW H (dom α w0)) G (slotsW ms ds ++ List.replicate (N.length - ds.length) .un) (L2.start N vs) H w0 α := by
    refine ⟨?_, WK⟩
    rw [pe]
    refine ⟨⟨Ex.refl _, Ex.refl _, W.gh, fun p hp => .inl hp⟩, ?_, fun i t ht => ?_, fun i j d1 d2 a hij h1 => ?_, fun i d h1 => ?_, hideW_le, fun i a vs h => (by cases h)⟩
    · unfold L2.start
      rw [List.length_append, List.length_append, List.length_map, List.length_replicate, List.length_replicate, l1, dv]
    · unfold L2.start
      by_cases hi : i < vs.length
      · rw [List.getElem?_append_left (by rw [l1]; exact hi)] at ht
        rw [List.getElem?_append_left (by simpa using hi)]
        exact (so i t ht).1
      · rw [List.getElem?_append_right (by rw [l1]; omega), List.getElem?_replicate] at ht
        split at ht
        · cases ht; exact .un
        · cases ht
    · exfalso
      by_cases hi : i < vs.length
      · rw [List.getElem?_append_left (by rw [l1]; exact hi)] at h1
        exact (so i _ h1).2.1 _ rfl
      · rw [List.getElem?_append_right (by rw [l1]; omega), List.getElem?_replicate] at h1
        split at h1 <;> cases h1
    · exfalso
      by_cases hi : i < vs.length
      · rw [List.getElem?_append_left (by rw [l1]; exact hi)] at h1
        exact (so i _ h1).2.2 _ rfl
      · rw [List.getElem?_append_right (by rw [l1]; omega), List.getElem?_replicate] at h1
        split at h1 <;> cases h1
  refine ⟨Fr0, _, G, _, w0, α, o, w2, start, e1, ?_⟩
  have leave : ∀ {G' H' : Hp} {α' : Pl}, Wx G w0 α G' w2 α' → WOk K cl Fr0 (hideW H (dom α w0)) G' H' α' w2 → Gx G (putW (hideW H (dom α w0)) (dom α' w2) H') G' H' → Bk K cl G H w0 α G' H' w2 α' := fun {G' H' α'} l W' gx =>
    ⟨gx_hide W' gx, l.le, l.n, l.al, ⟨gx.gh, W'.inj, W'.obj, W'.g⟩, W'.h⟩
  cases o with
  | rt d =>
    cases e3
    exact fun G' H' α' v l W' gx r => q G' H' α' v (leave l W' gx) r
  | nx ρ' =>
    cases rk with
    | md m =>
      cases m with
      | val =>
        cases e3
        exact fun G' σ' H' α' l s' => q G' H' α' .non (leave l s'.ww s'.sok.gx) (.val .non)
      | _ => cases e3
    | any =>
      cases e3
      exact fun G' σ' H' α' l s' => q G' H' α' .non (leave l s'.ww s'.sok.gx) (.d .non)
  | bk _ => cases e3
  | ct _ => cases e3
/-! ### calls -/
def mCall (Fn : MF) (r : MA) : ME := fun ρ w => (r ρ w).bind fun x => (Fn x.1 x.2).bind fun y => match y.1 with
  | .d d => some (d, y.2)
  | .r _ => none
def mCallQ (Fn : MF) (r : MA) : MQ := fun ρ w => (r ρ w).bind fun x => Fn x.1 x.2
def Fn1W (P : Program) (w : World) (K : PySem.W.Frag) (mg : Str → Option Value) (base : Heap) (cl : Str → Addr) (x : Str) (ps : List Str) (k : Nat) (rk : RK) (ms : List AK) (F : MF) : Prop :=
  ∃ (f : Addr) (fd : FuncData), FnOk P w K mg base CX0 k f fd ps (spW K cl rk ms F) ∧ mg x = some (.ref f) ∧ PySem.W.keepIn K (.ref f) = true ∧ Binds K fd ps []
section
variable {cl : Str → Addr} {X : Cx} {m : Md} {rk : RK} {ms : List AK} {e : Expr} {es : List Expr} {r : MA} {pos p : Pos} {x : Str} {k : Nat} {ps : List Str} {Fn : MF}
theorem callM_of (hm : MN m) : ∀ σ H Q, tM X.K cl m (mCall Fn r) σ H Q → tCall (spW X.K cl (.md m) ms Fn) [] E0 (tAM X.K cl ms r) σ H Q := fun σ H Q ⟨F, H0, G, ρ, w, α, d, w', s, ed, q⟩ => by
  obtain ⟨⟨ds, w1⟩, e1, ed⟩ := bind_some ed
  obtain ⟨⟨y, w2⟩, e2, ed⟩ := bind_some ed
  cases y with
  | r h => cases ed
  | d d' =>
    cases ed
    refine ⟨F, H0, G, ρ, w, α, ds, w1, s, e1, fun G' H' α' vs n s' ra => ?_⟩
    show spW X.K cl (.md m) ms Fn (vs ++ []) H' Q E0
    rw [List.append_nil]
    refine ⟨ra.len.2, G', w1, α', ds, _, _, s'.ww', ra, e2, fun G2 H2 α2 v b r2 => ?_⟩
    refine q G2 H2 α2 v (n.trans b.nx) (s'.back b) ?_
    rcases hm with rfl | rfl
    · exact .val r2.1
    · have r2 : RN X.K .new (hideW H' (dom α' w1)) _ α2 G2 H2 d v := r2
      obtain ⟨⟨p, rfl, np, g, o⟩, wn⟩ := r2
      refine ⟨⟨p, rfl, ?_, g, o⟩, wn⟩
      have z : ¬ dom α' w1 p := fun z => (b.le p z).elim (wn rfl p rfl) fun y => y g
      rw [hideW_out z] at np
      exact n.dom' s'.ww s'.gh np
theorem callQ_of : ∀ σ H Q, tQ X.K cl (mCallQ Fn r) σ H Q → tCall (spW X.K cl .any ms Fn) [] E0 (tAM X.K cl ms r) σ H Q := fun σ H Q ⟨F, H0, G, ρ, w, α, d, w', s, ed, q⟩ => by
  obtain ⟨⟨ds, w1⟩, e1, e2⟩ := bind_some ed
  refine ⟨F, H0, G, ρ, w, α, ds, w1, s, e1, fun G' H' α' vs n s' ra => ?_⟩
  show spW X.K cl .any ms Fn (vs ++ []) H' Q E0
  rw [List.append_nil]
  exact ⟨ra.len.2, G', w1, α', ds, _, _, s'.ww', ra, e2, fun G2 H2 α2 v b r2 => q G2 H2 α2 v (n.trans b.nx) (s'.back b) r2⟩
theorem m_fn (F : Fn1W X.prog X.w X.K X.mg X.base cl x ps k (.md m) ms Fn) (hr : Room k X.A) (ha : DAM cl X ms (e :: es) r) (hrm : MN m := by first | exact Or.inl rfl | exact Or.inr rfl) (hg : Gl X x := by rfl) (hdb : (x == ("__debug__" : Str)) = false := by decide) (he : starEach (e :: es) X.env = (false, eval e X.env) :: starEach es X.env := by rfl) (hpl : (backTo pos (starEach es X.env)).any (·.1) = false := by rfl) :
    DM cl X m (.Call (.Name x p) (e :: es) [] pos) (mCall Fn r) := by
  obtain ⟨f, fd, F, hm, hk, hb⟩ := F
  exact ⟨(pe_call F hr hg hm hk hb .nil pass0 ha.pa hdb he hpl).imp (callM_of hrm)⟩
theorem q_fn (F : Fn1W X.prog X.w X.K X.mg X.base cl x ps k .any ms Fn) (hr : Room k X.A) (ha : DAM cl X ms (e :: es) r) (hg : Gl X x := by rfl) (hdb : (x == ("__debug__" : Str)) = false := by decide) (he : starEach (e :: es) X.env = (false, eval e X.env) :: starEach es X.env := by rfl) (hpl : (backTo pos (starEach es X.env)).any (·.1) = false := by rfl) :
    DQ cl X (.Call (.Name x p) (e :: es) [] pos) (mCallQ Fn r) := by
  obtain ⟨f, fd, F, hm, hk, hb⟩ := F
  exact ⟨(pe_call F hr hg hm hk hb .nil pass0 ha.pa hdb he hpl).imp callQ_of⟩
theorem tA_nil {K : PySem.W.Frag} {sp : Sp} {σ : L2.St} {H : Hp} {Q : VK} (h : tCall sp [] E0 (tAM K cl [] maNil) σ H Q) : tCall sp [] E0 tNil σ H Q := by
  obtain ⟨F, H0, G, ρ, w, α, ds, w', s, e, q⟩ := h
  cases e
  exact q G H α [] .refl s .nil
theorem m_fn0 (F : Fn1W X.prog X.w X.K X.mg X.base cl x ps k (.md m) [] Fn) (hr : Room k X.A) (hrm : MN m := by first | exact Or.inl rfl | exact Or.inr rfl) (hg : Gl X x := by rfl) (hdb : (x == ("__debug__" : Str)) = false := by decide) : DM cl X m (.Call (.Name x p) [] [] pos) (mCall Fn maNil) := by
  obtain ⟨f, fd, F, hm, hk, hb⟩ := F
  exact ⟨(pe_call0 F hr hg hm hk hb .nil pass0 hdb).imp fun σ H Q h => tA_nil (callM_of hrm σ H Q h)⟩
theorem q_fn0 (F : Fn1W X.prog X.w X.K X.mg X.base cl x ps k .any [] Fn) (hr : Room k X.A) (hg : Gl X x := by rfl) (hdb : (x == ("__debug__" : Str)) = false := by decide) : DQ cl X (.Call (.Name x p) [] [] pos) (mCallQ Fn maNil) := by
  obtain ⟨f, fd, F, hm, hk, hb⟩ := F
  exact ⟨(pe_call0 F hr hg hm hk hb .nil pass0 hdb).imp fun σ H Q h => tA_nil (callQ_of σ H Q h)⟩
end
/-- the law's promise -/
theorem law_spW {K : PySem.W.Frag} {cl : Str → Addr} {H : Hp} {a : Addr} {ns : List Int} {F : MF} {w' : Wd} (hS : SqL K H a (ns.map V.int)) (h : F [.d (.list (ns.map .int))] [] = some (.d (.bool true), w')) :
    spW K cl (.md .val) [.md .scr] F [.ref a] H (fun v _ => v = .bl true) fun _ _ _ => False := by
  have nd : ∀ p, ¬ dom (⟨fun _ => 0, fun _ => 0⟩ : Pl) [] p := fun p ⟨h, o, e, _⟩ => by simp at e
  have e0 : hideW H (dom (⟨fun _ => 0, fun _ => 0⟩ : Pl) []) = H := by
    funext p
    exact hideW_out (nd p)
  refine ⟨rfl, fun _ => none, [], ⟨fun _ => 0, fun _ => 0⟩, _, _, w', ⟨fun b o z => (by cases (show (none : Option HO) = some o from z)), fun h _ o _ hh => (by simp at hh), fun h o e => (by simp at e), fun p hp => rfl⟩, ?_, h, fun G' H' α' v _ r => ?_⟩
  · rw [e0]
    exact .scr ⟨a, ns, rfl, rfl, hS⟩ .nil
  · cases (show Rep K G' (.bool true) v from r.1)
    rfl
noncomputable def boxM {α : Type} (a : α) : α := box a
end DV

namespace DV
open PySem L2 PySem.Spec PyProof.Rows
/-! ### lists of the world -/
section
variable {K : PySem.W.Frag} {cl : Str → Addr} {F : Fr} {H0 G H G' H' : Hp} {ρ ρ' : Rho} {σ σ' : L2.St} {w w' : Wd} {α α' : Pl}
theorem ixNlt {n : Nat} {i : Int} {j : Nat} (h : ixN n i = some j) : j < n := (ixN_seq h).2.1
theorem RepVA.atI {n : Nat} {ds : List WV} {vs : List V} {i : Int} {d : WV} (r : RepVA K G α n ds vs) (h : L2.atI ds i = some d) : ∃ v, L2.atI vs i = some v ∧ RepV K G α n d v := by
  unfold L2.atI at h ⊢
  rw [r.len] at h
  cases e : ixN vs.length i with
  | none => rw [e] at h; cases h
  | some j => rw [e] at h; exact r.get h
/-- the things from a place on -/
theorem RepVA.dropLast {n : Nat} {xs : List WV} {vs : List V} (h : RepVA K G α n xs vs) : RepVA K G α n xs.dropLast vs.dropLast := by
  rw [List.dropLast_eq_take, List.dropLast_eq_take, h.len]; exact h.take _
theorem RepVA.eraseIdx {n : Nat} : ∀ {xs : List WV} {vs : List V} (i : Nat), RepVA K G α n xs vs → RepVA K G α n (xs.eraseIdx i) (vs.eraseIdx i)
  | _, _, _, .nil => .nil
  | _, _, 0, .cons _ t => t
  | _, _, i + 1, .cons h t => .cons h (t.eraseIdx i)
theorem WOk.lst (W : WOk K cl F H0 G H α w) {h : Nat} {l : List WV} (e : w[h]? = some (.lst l)) : ∃ vs, H (α.a h) = some (.lst vs) ∧ RepVA K G α w.length l vs := W.obj h _ e
end
section
variable {K : PySem.W.Frag} {cl : Str → Addr} {F : Fr} {H0 G H G' H' : Hp} {ρ ρ' : Rho} {σ σ' : L2.St} {w w' : Wd} {α α' : Pl}
/-- without a thing that nobody holds -/
theorem Nok.drop (s : Nok K cl F H0 G ρ σ H w α) {p : Addr} (h0 : H0 p = none) (hg : G p = none) (hd : ¬ dom α w p) (no : ∀ (i : Nat) (d : PyData), ρ[i]? = some (Slot.own d) → σ[i]? ≠ some (some (V.ref p))) :
    Nok K cl F H0 G ρ σ (fun q => if q = p then none else H q) w α := by
  have out : ∀ q, q ≠ p → (fun q => if q = p then none else H q) q = H q := fun q ne => if_neg ne
  have sh := s.hide
  have ex : ∀ {A : Hp}, A p = none → Ex A (hideW H (dom α w)) → Ex A (hideW (fun q => if q = p then none else H q) (dom α w)) := fun {A} ha e q o h => by
    have ne : q ≠ p := fun z => by subst z; rw [ha] at h; cases h
    have := e q o h
    by_cases z : dom α w q
    · rw [hideW_in z] at this; cases this
    · rw [hideW_out z] at this ⊢; rw [if_neg ne]; exact this
  refine Nok.show ⟨⟨sh.gx.g, ex h0 sh.gx.h, ex hg sh.gx.gh, sh.gx.nw⟩, sh.len, fun i t ht => ?_, sh.apart, sh.pins, sh.base, sh.wf⟩ ⟨s.ww.inj, fun h o e => ?_, s.ww.g, s.ww.b, s.ww.h, s.ww.p⟩
  · have q := sh.slot i t ht
    generalize e : σ[i]?.getD none = x at q
    cases q with
    | un => exact .un
    | val h => exact .val h
    | bor h => exact .bor h
    | scr h => exact .scr h
    | pin => exact .pin
    | st h => exact .st h
    | @own d c h1 h2 h3 =>
      have ne : c ≠ p := fun z => no i d ht (by rw [getD_some e, z])
      refine .own h1 h2 (h3.mono (Ex.refl _) ?_)
      by_cases z : dom α w c
      · rw [hideW_in z, hideW_in z]
      · rw [hideW_out z, hideW_out z, if_neg ne]
  · refine (s.ww.obj h o e).mono (Ex.refl _) (Nat.le_refl _) (.refl _ _) (lt_of e) (fun hg => out _ fun z => hd (by rw [← z]; exact dom_a e hg)) fun hi => out _ fun z => hd (by rw [← z]; exact dom_x e hi)
theorem Nx.drop {G0 H1 : Hp} {w0 : Wd} {α0 : Pl} (n : Nx G0 H1 w0 α0 G H w α) {p : Addr} (np : H1 p = none) : Nx G0 H1 w0 α0 G (fun q => if q = p then none else H q) w α := by
  refine ⟨n.g, fun q o h => ?_, n.le, n.n, n.al, n.nw⟩
  have ne : q ≠ p := fun z => by
    subst z
    have := hideW_le q o h
    rw [np] at this; cases this
  have := n.h q o h
  by_cases z : dom α w q
  · rw [hideW_in z] at this; cases this
  · rw [hideW_out z] at this ⊢
    rw [if_neg ne]; exact this
theorem Nok.adopt' {G0 H1 : Hp} {w0 : Wd} {α0 : Pl} (s0 : Nok K cl F H0 G0 ρ σ H1 w0 α0) (n : Nx G0 H1 w0 α0 G H w α) (s : Nok K cl F H0 G ρ σ H w α) {p : Addr} {o : WO} (np : H1 p = none) (hg : G p = none) (hd : ¬ dom α w p) (hi : o.isI = false) (hgo : o.isG = false)
    (ob : ObjW K cl G (α.put w.length p p) (w.length + 1) H w.length o) : Nok K cl F H0 G ρ σ H (w ++ [o]) (α.put w.length p p) ∧ Nx G0 H1 w0 α0 G H (w ++ [o]) (α.put w.length p p) := by
  have s1 := s.drop (s0.h0 np) hg hd (s0.noOwn np)
  have z := s1.make (p := p) (x := p) (o := o) (H' := H) (if_pos rfl) (fun e => by rw [hi] at e; cases e) (fun q ne _ => (if_neg ne).symm) ob hgo
  exact ⟨z.1, (n.drop np).trans z.2⟩
end
/-! ### lists: new ones -/
/-- a new list of data comes to the world -/
def mMk (f : ME) : MR := fun ρ w => (f ρ w).bind fun x => match x.1 with
  | .list l => some (x.2.length, x.2 ++ [.lst (l.map .d)])
  | _ => none
def mNewL (r : MA) : MR := fun ρ w => (r ρ w).bind fun x => if x.1.length ≤ sizeLine then some (x.2.length, x.2 ++ [.lst x.1]) else none
/-- all arguments of any kind -/
theorem RWs.qs {K : PySem.W.Frag} {n : Nat} {α : Pl} {G B : Hp} : ∀ {ms : List AK} {ds : List WV} {vs : List V}, (∀ m ∈ ms, m = .q) → RWs K n α G B ms ds vs → RepVA K G α n ds vs
  | _, _, _, _, .nil => .nil
  | _, _, _, hq, .q h t => .cons h (RWs.qs (fun m hm => hq m (List.mem_cons_of_mem _ hm)) t)
  | _, _, _, hq, .val _ _ => by cases hq _ List.mem_cons_self
  | _, _, _, hq, .bor _ _ => by cases hq _ List.mem_cons_self
  | _, _, _, hq, .scr _ _ => by cases hq _ List.mem_cons_self
section
variable {cl : Str → Addr} {X : Cx} {rk : RK} {m : Md} {a b e : Expr} {es : List Expr} {ms : List AK} {f fb : ME} {fr : MR} {fq : MQ} {r : MA} {pos p p1 cpos apos tpos : Pos} {x : Str}
theorem r_mk (h : DM cl X .new e f) : DR cl X e (mMk f) := ⟨h.pe.imp fun σ H Q ⟨F, H0, G, ρ, w, α, h, w', s, e, q⟩ => by
  obtain ⟨⟨d, w1⟩, e1, e⟩ := bind_some e
  cases d with
  | list l =>
    cases e
    refine ⟨F, H0, G, ρ, w, α, _, w1, s, e1, fun G' H' α' v n s' rr => ?_⟩
    obtain ⟨⟨p, rfl, np, g, o⟩, wn⟩ := rr
    obtain ⟨vs, hv, ra⟩ := own_list o
    have z := s.adopt' n s' (p := p) (o := .lst (l.map .d)) np g (wn rfl p rfl) rfl rfl ⟨vs, by rw [show (α'.put w1.length p p).a w1.length = p from if_pos rfl]; exact hv, RepVA.data ra⟩
    have := q G' H' (α'.put w1.length p p) z.2 z.1 (by show w1.length < (w1 ++ [_]).length; simp)
    rw [show (α'.put w1.length p p).a w1.length = p from if_pos rfl] at this
    exact this
  | _ => cases e⟩
theorem r_list (h : DAM cl X ms es r) (hms : ∀ m ∈ ms, m = .q) : DR cl X (.List es pos) (mNewL r) :=
  ⟨(pe_lst h.pa).imp fun σ H Q ⟨F, H0, G, ρ, w, α, d, w', s, e, q⟩ => by
    obtain ⟨⟨ds, w1⟩, e1, e⟩ := bind_some e
    obtain ⟨hl, e⟩ := if_some e
    cases e
    refine ⟨F, H0, G, ρ, w, α, ds, w1, s, e1, fun G' H' α' vs n s' rr => ?_⟩
    have ra := rr.qs hms
    refine ⟨by rw [← ra.len]; exact hl, fun p np => ?_⟩
    have z := s'.make (p := p) (x := p) (o := .lst ds) (H' := upd H' p (.lst vs)) np (fun e => by cases e) (fun q ne _ => upd_ne ne) ⟨vs, by rw [show (α'.put w1.length p p).a w1.length = p from if_pos rfl]; exact upd_same, ra.mono (Ex.refl _) (Nat.le_succ _) Pl.put_le⟩
    have := q G' _ _ (n.trans z.2) z.1 (by show w1.length < (w1 ++ [_]).length; simp)
    rw [show (α'.put w1.length p p).a w1.length = p from if_pos rfl] at this
    exact this⟩
theorem r_list0 : DR cl X (.List [] pos) (mNewL maNil) := r_list ma_nil fun m hm => absurd hm List.not_mem_nil
/-! ### lists: methods -/
def mMth (Fn : List WV → List WV → Option (WV × List WV)) (fr : MR) (r : MA) : MQ := fun ρ w => (fr ρ w).bind fun x => match x.2[x.1]? with
  | some (.lst _) => (r ρ x.2).bind fun y => match y.2[x.1]? with
    | some (.lst l) => (Fn l y.1).map fun z => (z.1, y.2.set x.1 (.lst z.2))
    | _ => none
  | _ => none
def MthF (K : PySem.W.Frag) (rr : V → List V → Hp → VK → Prop) (ms : List AK) (Fn : List WV → List WV → Option (WV × List WV)) : Prop :=
  ∀ (G B H : Hp) (n : Nat) (α : Pl) (l ds : List WV) (z : WV × List WV) (vs us : List V) (p : Addr) (Q : VK), H p = some (.lst vs) → RepVA K G α n l vs → RWs K n α G B ms ds us → Fn l ds = some z → (∀ v us', RepV K G α n z.1 v → RepVA K G α n z.2 us' → Q v (upd H p (.lst us'))) → rr (.ref p) us H Q
theorem mth_of {K : PySem.W.Frag} {rr : V → List V → Hp → VK → Prop} {Fn : List WV → List WV → Option (WV × List WV)} (hF : MthF K rr ms Fn) : ∀ σ H Q, tQ K cl (mMth Fn fr r) σ H Q → tBM K "list" rr (tR K cl fr) (tAM K cl ms r) σ H Q := fun σ H Q ⟨F, H0, G, ρ, w, α, x, w', s, e, q⟩ => by
  obtain ⟨⟨h, w1⟩, e1, e⟩ := bind_some e
  cases e5 : w1[h]? with
  | none => rw [e5] at e; cases e
  | some o =>
    rw [e5] at e
    cases o with
    | lst l0 =>
      obtain ⟨⟨ds, w2⟩, e2, e⟩ := bind_some e
      cases e6 : w2[h]? with
      | none => rw [e6] at e; cases e
      | some o =>
        rw [e6] at e
        cases o with
        | lst l =>
          obtain ⟨z, e3, e4⟩ := map_some e
          cases e4
          refine ⟨F, H0, G, ρ, w, α, h, w1, s, e1, fun G1 H1 α1 n1 s1 hh => ?_⟩
          obtain ⟨vs0, hv0, _⟩ := s1.ww.lst e5
          refine ⟨.inl ⟨rfl, _, SqL.of hv0⟩, F, H0, G1, ρ, w1, α1, ds, w2, s1, e2, fun G2 H2 α2 us n2 s2 ra => ?_⟩
          obtain ⟨vs, hv, rl⟩ := s2.ww.lst e6
          rw [← (n2.al h hh).1]
          refine hF G2 _ H2 w2.length α2 l ds z vs us _ _ hv rl ra e3 fun v us' rv ru => ?_
          have t := s2.turn (o' := .lst z.2) (u := .lst us') e6 rfl ⟨us', upd_same, ru⟩
          refine q G2 _ α2 v ((n1.trans n2).trans t.2) t.1 ?_
          rw [List.length_set]; exact rv
        | _ => cases e
    | _ => cases e
def lApp : List WV → List WV → Option (WV × List WV) := fun l ds => match ds with
  | [x] => if l.length < sizeLine then some (.d .none, l ++ [x]) else none
  | _ => none
def lPopAt : List WV → List WV → Option (WV × List WV) := fun l ds => match ds with
  | [.d (.int i)] => if -(2 ^ 63) ≤ i ∧ i < 2 ^ 63 then (seqIndex? i l.length).bind fun k => (l[k]?).map fun x => (x, l.eraseIdx k) else none
  | _ => none
def lPop : List WV → List WV → Option (WV × List WV) := fun l _ => (l[l.length - 1]?).map fun x => (x, l.dropLast)
def lIns : List WV → List WV → Option (WV × List WV) := fun l ds => match ds with
  | [.d (.int i), x] => if l.length < sizeLine ∧ 0 ≤ i ∧ i < 2 ^ 63 then some (.d .none, l.take i.toNat ++ [x] ++ l.drop i.toNat) else none
  | _ => none
theorem mf_app {K : PySem.W.Frag} : MthF K rAppend [.q] lApp := fun G B H n α l ds z vs us p Q hv rl ra h q => by
  unfold lApp at h
  split at h
  · obtain ⟨hl, e⟩ := if_some h
    cases e
    cases ra with
    | q r1 t =>
      cases t
      exact ⟨p, vs, _, rfl, rfl, hv, by rw [← rl.len]; exact hl, q _ _ (.d .non) (rl.app (.cons r1 .nil))⟩
  · cases h
theorem mf_popAt {K : PySem.W.Frag} : MthF K rPopAt [.md .val] lPopAt := fun G B H n α l ds z vs us p Q hv rl ra h q => by
  unfold lPopAt at h
  split at h
  · obtain ⟨⟨h1, h2⟩, h⟩ := ite_some h
    obtain ⟨k, h3, h⟩ := bind_some h
    obtain ⟨x, h4, h⟩ := map_some h
    cases h
    cases ra with
    | val r1 t =>
      cases t
      cases r1
      obtain ⟨v, h5, h6⟩ := rl.get h4
      exact ⟨p, vs, _, k, v, rfl, rfl, hv, h1, h2, by rw [← rl.len]; exact h3, h5, q _ _ h6 (rl.eraseIdx k)⟩
  · cases h
theorem mf_ins {K : PySem.W.Frag} {ik : List AK} (hk : ik = [.md .val, .q]) : MthF K (fun x vs H Q => ∃ (l : Addr) (xs : List V) (i : Int) (y : V), x = .ref l ∧ vs = [.int i, y] ∧ H l = some (.lst xs) ∧ xs.length < sizeLine ∧ 0 ≤ i ∧ i < 2 ^ 63 ∧ Q .non (upd H l (.lst (xs.take i.toNat ++ [y] ++ xs.drop i.toNat)))) ik lIns := fun G B H n α l ds z vs us p Q hv rl ra h q => by
  subst hk
  unfold lIns at h
  split at h
  · obtain ⟨⟨hl, h1, h2⟩, e⟩ := if_some h
    cases e
    cases ra with
    | val r1 t =>
      cases t with
      | q r2 t =>
        cases t
        cases r1
        exact ⟨p, vs, _, _, rfl, rfl, hv, by rw [← rl.len]; exact hl, h1, h2, q _ _ (.d .non) (((rl.take _).app (.cons r2 .nil)).app (rl.drop _))⟩
  · cases h
theorem q_app (ho : DR cl X e fr) (ha : DQ cl X a fq)
    (hbase : attributeBase e "append" X.env (eval e X.env) = eval e X.env := by rfl)
    (hfew : ((backTo cpos (starEach (a :: []) X.env)).all (fun x => !x.1) && (backToKw cpos (keywordEach [] X.env)).all (fun x => x.1.isSome)
      && decide ((a :: []).length + ([] : List Keyword).length + (if ([] : List Keyword).isEmpty then 0 else 1) < 30)) = true := by rfl)
    (hline : (apos.endLine == cpos.line) = true := by rfl) (hs : starEach (a :: []) X.env = (false, eval a X.env) :: starEach [] X.env := by rfl) (hplain : (backTo cpos (starEach [] X.env)).any (·.1) = false := by rfl) :
    DQ cl X (.Call (.Attribute e "append" apos) [a] [] cpos) (mMth lApp fr (maQ fq maNil)) :=
  ⟨(pe_bm PySem.F.plainAttrs_list PySem.F.slot_list_append PySem.F.type_list_append mt_append ho.pe (ma_q ha ma_nil hs).pa hbase hfew hline hs hplain).imp (mth_of mf_app)⟩
theorem q_popAt (ho : DR cl X e fr) (ha : DM cl X .val a f)
    (hbase : attributeBase e "pop" X.env (eval e X.env) = eval e X.env := by rfl)
    (hfew : ((backTo cpos (starEach (a :: []) X.env)).all (fun x => !x.1) && (backToKw cpos (keywordEach [] X.env)).all (fun x => x.1.isSome)
      && decide ((a :: []).length + ([] : List Keyword).length + (if ([] : List Keyword).isEmpty then 0 else 1) < 30)) = true := by rfl)
    (hline : (apos.endLine == cpos.line) = true := by rfl) (hs : starEach (a :: []) X.env = (false, eval a X.env) :: starEach [] X.env := by rfl) (hplain : (backTo cpos (starEach [] X.env)).any (·.1) = false := by rfl) :
    DQ cl X (.Call (.Attribute e "pop" apos) [a] [] cpos) (mMth lPopAt fr (maD f maNil)) :=
  ⟨(pe_bm PySem.F.plainAttrs_list PySem.F.slot_list_pop PySem.F.type_list_pop mt_popAt ho.pe (ma_val ha ma_nil hs).pa hbase hfew hline hs hplain).imp (mth_of mf_popAt)⟩
theorem q_ins (ho : DR cl X e fr) (ha : DM cl X .val a f) (hb : DQ cl X b fq)
    (hbase : attributeBase e "insert" X.env (eval e X.env) = eval e X.env := by rfl)
    (hfew : ((backTo cpos (starEach [a, b] X.env)).all (fun x => !x.1) && (backToKw cpos (keywordEach [] X.env)).all (fun x => x.1.isSome)
      && decide ([a, b].length + ([] : List Keyword).length + (if ([] : List Keyword).isEmpty then 0 else 1) < 30)) = true := by rfl)
    (hline : (apos.endLine == cpos.line) = true := by rfl) (hs : starEach [a, b] X.env = (false, eval a X.env) :: starEach [b] X.env := by rfl) (hs2 : starEach [b] X.env = (false, eval b X.env) :: starEach [] X.env := by rfl) (hplain : (backTo cpos (starEach [b] X.env)).any (·.1) = false := by rfl) :
    DQ cl X (.Call (.Attribute e "insert" apos) [a, b] [] cpos) (mMth lIns fr (maD f (maQ fq maNil))) :=
  ⟨(pe_bm PySem.F.plainAttrs_list PySem.F.slot_list_insert PySem.F.type_list_insert mt_insert ho.pe (ma_val ha (ma_q hb ma_nil hs2) hs).pa hbase hfew hline hs hplain).imp (mth_of (mf_ins rfl))⟩
/-- x.pop() -/
def mMth0 (Fn : List WV → List WV → Option (WV × List WV)) (fr : MR) : MQ := fun ρ w => (fr ρ w).bind fun x => match x.2[x.1]? with
  | some (.lst l) => (Fn l []).map fun z => (z.1, x.2.set x.1 (.lst z.2))
  | _ => none
theorem q_pop (ho : DR cl X e fr) (hbase : attributeBase e "pop" X.env (eval e X.env) = eval e X.env := by rfl) (hline : (apos.endLine == cpos.line) = true := by rfl) : DQ cl X (.Call (.Attribute e "pop" apos) [] [] cpos) (mMth0 lPop fr) :=
  ⟨(pe_bm0 PySem.F.plainAttrs_list PySem.F.slot_list_pop PySem.F.type_list_pop mt_pop ho.pe hbase hline).imp fun σ H Q ⟨F, H0, G, ρ, w, α, x, w', s, e, q⟩ => by
    obtain ⟨⟨h, w1⟩, e1, e⟩ := bind_some e
    cases e5 : w1[h]? with
    | none => rw [e5] at e; cases e
    | some o =>
      rw [e5] at e
      cases o with
      | lst l =>
        obtain ⟨z, e3, e4⟩ := map_some e
        cases e4
        obtain ⟨y, e6, e7⟩ := map_some e3
        cases e7
        refine ⟨F, H0, G, ρ, w, α, h, w1, s, e1, fun G1 H1 α1 n1 s1 hh => ?_⟩
        obtain ⟨vs, hv, rl⟩ := s1.ww.lst e5
        obtain ⟨v, h5, h6⟩ := rl.get e6
        refine ⟨.inl ⟨rfl, _, SqL.of hv⟩, _, vs, v, rfl, rfl, hv, by rw [← rl.len]; exact h5, ?_⟩
        have t := s1.turn (o' := .lst l.dropLast) (u := .lst vs.dropLast) e5 rfl ⟨_, upd_same, rl.dropLast⟩
        refine q G1 _ α1 v (n1.trans t.2) t.1 ?_
        rw [List.length_set]; exact h6
      | _ => cases e⟩
/-! ### lists: items -/
def mIx (fr : MR) (fb : ME) : MQ := fun ρ w => (fr ρ w).bind fun x => (fb ρ x.2).bind fun y => match y.2[x.1]?, y.1 with
  | some (.lst l), .int i => (atI l i).map fun z => (z, y.2)
  | _, _ => none
theorem q_ix (ha : DR cl X a fr) (hb : DM cl X .val b fb) (hs : PlainIx b := by intro _ _; rfl) : DQ cl X (.Subscript a b pos) (mIx fr fb) :=
  ⟨(pe_ix ix_list ha.pe hb.pe hs).imp fun σ H Q ⟨F, H0, G, ρ, w, α, x, w', s, e, q⟩ => by
    obtain ⟨⟨h, w1⟩, e1, e⟩ := bind_some e
    obtain ⟨⟨d, w2⟩, e2, e⟩ := bind_some e
    refine ⟨F, H0, G, ρ, w, α, h, w1, s, e1, fun G1 H1 α1 n1 s1 hh => ⟨F, H0, G1, ρ, w1, α1, d, w2, s1, e2, fun G2 H2 α2 v n2 s2 r2 => ?_⟩⟩
    split at e
    · rename_i l i e5 e6
      obtain ⟨z, e3, e4⟩ := map_some e
      cases e4
      cases e6
      obtain ⟨vs, hv, rl⟩ := s2.ww.lst e5
      cases (show Rep X.K G2 (.int i) v from r2.1)
      obtain ⟨u, h2, h3⟩ := rl.atI e3
      rw [← (n2.al h hh).1]
      exact ⟨_, vs, i, u, rfl, rfl, SqL.of hv, h2, q G2 H2 α2 u (n1.trans n2) s2 h3⟩
    · cases e⟩
/-- o[i] = v: the value first -/
def mPutI (fr : MR) (fb : ME) (fv : MQ) : MS := fun ρ w => (fv ρ w).bind fun v => (fr ρ v.2).bind fun x => (fb ρ x.2).bind fun y => match y.2[x.1]?, y.1 with
  | some (.lst l), .int i => (ixN l.length i).map fun j => (.nx ρ, y.2.set x.1 (.lst (l.set j v.1)))
  | _, _ => none
theorem ms_putI (he : DQ cl X e fq) (ha : DR cl X a fr) (hb : DM cl X .val b fb)
    (hass : ∀ v, assign (.Subscript a b tpos) X.env v = (do
      let ov ← holding [v] (eval a X.env)
      let iv ← holding [v, ov] (eval b X.env)
      standAt tpos
      holding [v, ov, iv] (setItem ov iv v)
      release [v, ov, iv] []) := by intro _; rfl)
    (hs : swapsWithSole [.Subscript a b tpos] e pos.line X.env = pure false := by rfl) (hw : swappedStores [.Subscript a b tpos] e X.env = pure none := by rfl)
    (h1 : (assignEach [.Subscript a b tpos] X.env).map (·.2) = [assign (.Subscript a b tpos) X.env] := by rfl) : DSM cl X rk (.Assign [.Subscript a b tpos] e pos) (mPutI fr fb fq) :=
  ⟨(ps_asg he.pe (pg_sub ha.pe hb.pe set_list hass) hs hw h1).imp fun D σ H ⟨F, H0, G, ρ, w, α, o, w', s, e, q⟩ => by
    obtain ⟨⟨xv, w1⟩, e1, e⟩ := bind_some e
    obtain ⟨⟨h, w2⟩, e2, e⟩ := bind_some e
    obtain ⟨⟨d, w3⟩, e3, e⟩ := bind_some e
    refine ⟨F, H0, G, ρ, w, α, xv, w1, s, e1, fun G1 H1 α1 v n1 s1 r1 => ⟨F, H0, G1, ρ, w1, α1, h, w2, s1, e2, fun G2 H2 α2 n2 s2 hh => ⟨F, H0, G2, ρ, w2, α2, d, w3, s2, e3, fun G3 H3 α3 y n3 s3 r3 => ?_⟩⟩⟩
    split at e
    · rename_i l i e5 e6
      obtain ⟨j, e7, e4⟩ := map_some e
      cases e4
      cases e6
      obtain ⟨vs, hv, rl⟩ := s3.ww.lst e5
      cases (show Rep X.K G3 (.int i) y from r3.1)
      rw [← (n3.al h hh).1]
      have n23 := n2.trans n3
      have t := s3.turn (o' := .lst (l.set j xv)) (u := .lst (vs.set j v)) e5 rfl ⟨_, upd_same, rl.set j (r1.mono n23.g n23.n n23.al)⟩
      exact ⟨_, vs, i, j, rfl, rfl, hv, by rw [← rl.len]; exact e7, q G3 σ _ α3 ((n1.trans n23).trans t.2).wx t.1⟩
    · cases e⟩
/-- len(o) -/
def mLenL (fr : MR) : ME := fun ρ w => (fr ρ w).bind fun x => match x.2[x.1]? with
  | some (.lst l) => some (.int l.length, x.2)
  | _ => none
theorem m_lenL (ha : DR cl X a fr) (hm : X.mg "len" = none) (hg : Gl X "len" := by rfl) (he : starEach [a] X.env = (false, eval a X.env) :: starEach [] X.env := by rfl) (hpl : (backTo pos (starEach [] X.env)).any (·.1) = false := by rfl) :
    DM cl X .val (.Call (.Name "len" p) [a] [] pos) (mLenL fr) :=
  ⟨(pe_callB call_len hg hm PySem.boot_len (pa_cons ha.pe pa_nil he) (by decide) (by decide) he hpl).imp fun σ H Q ⟨F, H0, G, ρ, w, α, d, w', s, e, q⟩ => by
    obtain ⟨⟨h, w1⟩, e1, e⟩ := bind_some e
    refine ⟨F, H0, G, ρ, w, α, h, w1, s, e1, fun G1 H1 α1 n1 s1 hh => ?_⟩
    split at e
    · rename_i l e5
      cases e
      obtain ⟨vs, hv, rl⟩ := s1.ww.lst e5
      refine ⟨_, _, rfl, .inl ⟨_, SqL.of hv, rfl⟩, ?_⟩
      rw [← rl.len]
      exact q G1 H1 α1 _ n1 s1 (.val (.int _))
    · cases e⟩
end
end DV

namespace DV
open PySem L2 PySem.Spec PyProof.Rows
/-! ### things of the world that are frozen -/
section
variable {K : PySem.W.Frag} {cl : Str → Addr} {F : Fr} {H0 G H G' H' : Hp} {ρ ρ' : Rho} {σ σ' : L2.St} {w w' : Wd} {α α' : Pl}
theorem Nok.frz (s : Nok K cl F H0 G ρ σ H w α) {h : Nat} {o : WO} {d : PyData} {u u' : HO} (e : w[h]? = some o) (hg : o.isG = false) (hi : o.isI = false) (hu : H (α.a h) = some u) (lk : u' = u ∨ Mut (some u) ∧ ∃ od, u' = .frz od u) (r : Rep K (upd G (α.a h) u') d (.ref (α.a h))) :
    Nok K cl F H0 (upd G (α.a h) u') ρ σ (upd H (α.a h) u') (w.set h (.gone d)) α ∧ Nx G H w α (upd G (α.a h) u') (upd H (α.a h) u') (w.set h (.gone d)) α := by
  have hl := lt_of e
  have hlen : (w.set h (WO.gone d)).length = w.length := List.length_set ..
  have da : dom α w (α.a h) := dom_a e hg
  have gn := s.ww.g _ da
  have ne : ∀ {i : Nat} {v : WO}, h ≠ i → w[i]? = some v → v.isG = false → α.a i ≠ α.a h := fun {i v} q hv gv z => q (s.ww.inj h i o v e hv hg gv z.symm)
  have nx : ∀ {i : Nat} {v : WO}, w[i]? = some v → v.isI = true → α.x i ≠ α.a h := fun {i v} hv iv z => by
    have h1 := ((s.ww.obj i v hv).there (v.gi iv)).2 iv
    obtain ⟨t, h2, _, h3⟩ := ((s.ww.obj h o e).there hg).1
    rw [z, h2] at h1
    exact h3 _ (Option.some.inj h1)
  have dm : ∀ p, dom α (w.set h (.gone d)) p ↔ dom α w p ∧ p ≠ α.a h := fun p => by
    constructor
    · rintro ⟨i, v, e1, g1, z⟩
      by_cases q : h = i
      · subst q
        rw [List.getElem?_set_self hl] at e1
        cases e1; cases g1
      · rw [List.getElem?_set_ne q] at e1
        refine ⟨⟨i, v, e1, g1, z⟩, ?_⟩
        rcases z with z | ⟨z1, z⟩
        · rw [z]; exact ne q e1 g1
        · rw [z]; exact nx e1 z1
    · rintro ⟨⟨i, v, e1, g1, z⟩, np⟩
      by_cases q : h = i
      · subst q
        rw [e] at e1; cases e1
        rcases z with z | ⟨z1, z⟩
        · exact absurd z np
        · rw [hi] at z1; cases z1
      · exact ⟨i, v, by rw [List.getElem?_set_ne q]; exact e1, g1, z⟩
  have hh : hideW (upd H (α.a h) u') (dom α (w.set h (.gone d))) = upd (hideW H (dom α w)) (α.a h) u' := by
    funext p
    by_cases q : p = α.a h
    · subst q
      rw [hideW_out (fun z => ((dm _).mp z).2 rfl), upd_same, upd_same]
    · rw [upd_ne q]
      by_cases z : dom α w p
      · rw [hideW_in ((dm p).mpr ⟨z, q⟩), hideW_in z]
      · rw [hideW_out (fun y => z ((dm p).mp y).1), hideW_out z, upd_ne q]
  have hn : hideW H (dom α w) (α.a h) = none := hideW_in da
  have gx := Gx.new (o := u') s.hide.gx.gh hn
  have s1 := (s.hide.gx' gx)
  rw [← hh] at s1
  refine ⟨Nok.show (by rw [hlen]; exact s1) ⟨fun i j a b h1 h2 g1 g2 z => ?_, fun i v hv => ?_, fun p hp => ?_, fun p hp => s.ww.b p ((dm p).mp hp).1, fun p hp => s.ww.h p ((dm p).mp hp).1, fun p hp => s.ww.p p ((dm p).mp hp).1⟩, ?_⟩
  · have back : ∀ {i : Nat} {v : WO}, (w.set h (WO.gone d))[i]? = some v → v.isG = false → w[i]? = some v := fun {i v} hv gv => by
      by_cases q : h = i
      · subst q
        rw [List.getElem?_set_self hl] at hv
        cases hv; cases gv
      · rw [List.getElem?_set_ne q] at hv; exact hv
    exact s.ww.inj i j a b (back h1 g1) (back h2 g2) g1 g2 z
  · rw [hlen]
    by_cases q : h = i
    · subst q
      rw [List.getElem?_set_self hl] at hv
      cases hv
      exact r
    · rw [List.getElem?_set_ne q] at hv
      exact (s.ww.obj i v hv).mono gx.g (Nat.le_refl _) (.refl _ _) (lt_of hv) (fun gv => upd_ne (ne q hv gv)) fun iv => upd_ne (nx hv iv)
  · obtain ⟨z1, z2⟩ := (dm p).mp hp
    rw [upd_ne z2]; exact s.ww.g p z1
  · refine ⟨gx.g, by rw [hh]; exact gx.h, fun p hp => ?_, by rw [hlen]; exact Nat.le_refl _, .refl _ _, gx.nw⟩
    by_cases q : p = α.a h
    · subst q
      exact .inr (by rw [upd_same]; simp)
    · exact .inl ((dm p).mpr ⟨hp, q⟩)
end
def undata : List WV → Option (List PyData)
  | [] => some []
  | .d x :: r => (undata r).map (x :: ·)
  | .r _ :: _ => none
theorem undata_inv : ∀ {l : List WV} {ds : List PyData}, undata l = some ds → l = ds.map .d
  | [], ds, h => by cases h; rfl
  | .d x :: r, ds, h => by
    obtain ⟨ds', e, rfl⟩ := map_some (show (undata r).map (x :: ·) = some ds from h)
    rw [undata_inv e]; rfl
  | .r _ :: _, ds, h => by cases h
@[simp] theorem undata_map : ∀ ds : List PyData, undata (ds.map .d) = some ds
  | [] => rfl
  | d :: ds => by rw [List.map_cons]; show (undata (ds.map .d)).map (d :: ·) = _; rw [undata_map ds]; rfl
/-- lists that are reached become data -/
def frzL : List WV → Wd → Option (List PyData × Wd)
  | [], w => some ([], w)
  | .d x :: r, w => (frzL r w).map fun y => (x :: y.1, y.2)
  | .r h :: r, w => match w[h]? with
    | some (.lst l) => (undata l).bind fun ds => (frzL r (w.set h (.gone (.list ds)))).map fun y => (.list ds :: y.1, y.2)
    | some (.gone d) => (frzL r w).map fun y => (d :: y.1, y.2)
    | _ => none
theorem frzL_keep {h : Nat} {es : List (Key × WV)} : ∀ {l : List WV} {w w' : Wd} {ds : List PyData}, frzL l w = some (ds, w') → w[h]? = some (.dK es) → w'[h]? = some (.dK es)
  | [], w, w', ds, e, k => by cases e; exact k
  | .d x :: r, w, w', ds, e, k => by
    obtain ⟨⟨y1, y2⟩, e1, e2⟩ := map_some (show (frzL r w).map (fun y => (x :: y.1, y.2)) = some (ds, w') from e)
    cases e2
    exact frzL_keep e1 k
  | .r i :: r, w, w', ds, e, k => by
    unfold frzL at e
    split at e
    · rename_i l hl
      obtain ⟨ds1, e1, e⟩ := bind_some e
      obtain ⟨⟨y1, y2⟩, e2, e3⟩ := map_some e
      cases e3
      refine frzL_keep e2 ?_
      have ne : i ≠ h := fun z => by subst z; rw [k] at hl; cases hl
      rw [List.getElem?_set_ne ne]; exact k
    · obtain ⟨⟨y1, y2⟩, e2, e3⟩ := map_some e
      cases e3
      exact frzL_keep e2 k
    · cases e
section
variable {K : PySem.W.Frag} {cl : Str → Addr} {F : Fr} {H0 H : Hp} {ρ : Rho} {σ : L2.St} {α : Pl}
theorem frzL_ok : ∀ {l : List WV} {w w' : Wd} {G : Hp} {ds : List PyData} {vs : List V}, Nok K cl F H0 G ρ σ H w α → RepVA K G α w.length l vs → frzL l w = some (ds, w') → ∃ G', Nok K cl F H0 G' ρ σ H w' α ∧ Nx G H w α G' H w' α ∧ RepA K G' ds vs
  | [], w, w', G, ds, vs, s, r, e => by cases e; cases r; exact ⟨G, s, .refl, .nil⟩
  | .d x :: l, w, w', G, ds, vs, s, r, e => by
    obtain ⟨⟨y1, y2⟩, e1, e2⟩ := map_some (show (frzL l w).map (fun y => (x :: y.1, y.2)) = some (ds, w') from e)
    cases e2
    cases r with
    | cons r1 r2 =>
      obtain ⟨G', s', n, ra⟩ := frzL_ok s r2 e1
      cases r1 with
      | d r1 => exact ⟨G', s', n, .cons (r1.mono n.g) ra⟩
  | .r i :: l, w, w', G, ds, vs, s, r, e => by
    cases r with
    | cons r1 r2 =>
      cases r1 with
      | r hi =>
        unfold frzL at e
        split at e
        · rename_i l0 hl
          obtain ⟨ds1, e1, e⟩ := bind_some e
          obtain ⟨⟨y1, y2⟩, e2, e3⟩ := map_some e
          cases e3
          have := undata_inv e1
          subst this
          obtain ⟨us, hv, ru⟩ := s.ww.lst hl
          have gn : Ex G (upd G (α.a i) (.lst us)) := Ex.new (s.ww.g _ (dom_a hl rfl))
          have z := s.frz (d := .list ds1) (u := .lst us) (u' := .lst us) hl rfl rfl hv (.inl rfl) (.lst (.inl upd_same) (RepVA.ofData ru |>.mono gn))
          rw [upd_id hv] at z
          obtain ⟨G', s', n, ra⟩ := frzL_ok z.1 (by rw [List.length_set]; exact r2.mono gn (Nat.le_refl _) (.refl _ _)) e2
          exact ⟨G', s', z.2.trans n, .cons ((Rep.lst (.inl upd_same) (RepVA.ofData ru |>.mono gn)).mono n.g) ra⟩
        · rename_i d hl
          obtain ⟨⟨y1, y2⟩, e2, e3⟩ := map_some e
          cases e3
          obtain ⟨G', s', n, ra⟩ := frzL_ok s r2 e2
          exact ⟨G', s', n, .cons (Rep.mono n.g (s.ww.obj i _ hl)) ra⟩
        · cases e
end
/-- a dict of the world, its lists too, becomes data -/
def mFrzD (fr : MR) : ME := fun ρ w => (fr ρ w).bind fun x => match x.2[x.1]? with
  | some (.dK es) => (frzL (es.map (·.2)) x.2).map fun y => (.dict ((es.map fun p => keyD p.1).zip y.1), y.2.set x.1 (.gone (.dict ((es.map fun p => keyD p.1).zip y.1))))
  | _ => none
section
variable {cl : Str → Addr} {X : Cx} {rk : RK} {m : Md} {a b e : Expr} {es : List Expr} {ms : List AK} {f fb : ME} {fr : MR} {fq : MQ} {r : MA} {pos p p1 cpos apos tpos : Pos} {x : Str} {k : Nat}
theorem zip_fst {α β : Type} : ∀ {xs : List α} {ys : List β}, xs.length = ys.length → (xs.zip ys).map (·.1) = xs
  | [], [], _ => rfl
  | x :: xs, y :: ys, h => by rw [List.zip_cons_cons, List.map_cons, zip_fst (Nat.succ.inj h)]
theorem zip_snd {α β : Type} : ∀ {xs : List α} {ys : List β}, xs.length = ys.length → (xs.zip ys).map (·.2) = ys
  | [], [], _ => rfl
  | x :: xs, y :: ys, h => by rw [List.zip_cons_cons, List.map_cons, zip_snd (Nat.succ.inj h)]
theorem m_frzD (h : DR cl X e fr) : DM cl X .val e (mFrzD fr) := ⟨(pe_fz h.pe).imp fun σ H Q ⟨F, H0, G, ρ, w, α, d, w', s, e, q⟩ => by
  obtain ⟨⟨i, w1⟩, e1, e⟩ := bind_some e
  cases e5 : w1[i]? with
  | none => rw [e5] at e; cases e
  | some o =>
    rw [e5] at e
    cases o with
    | dK es =>
      obtain ⟨⟨ds, w2⟩, e2, e3⟩ := map_some e
      cases e3
      refine ⟨F, H0, G, ρ, w, α, i, w1, s, e1, fun G1 H1 α1 n1 s1 hi => ?_⟩
      obtain ⟨ks, hk, h1, h2⟩ := s1.ww.obj i _ e5
      obtain ⟨G2, s2, n2, ra⟩ := frzL_ok s1 h2 e2
      have e6 := frzL_keep e2 e5
      have el : (es.map fun p => keyD p.1).length = ds.length := by
        rw [List.length_map, ← List.length_map (f := fun p : Key × WV => p.2), h2.len, ra.len]
      have gn : ∀ u, Ex G2 (upd G2 (α1.a i) u) := fun u => Ex.new (s2.ww.g _ (dom_a e6 rfl))
      have rep : ∀ od, Rep X.K (upd G2 (α1.a i) (.frz od (.dK ks))) (.dict ((es.map fun p => keyD p.1).zip ds)) (.ref (α1.a i)) := fun od => by
        refine .dK ⟨od, upd_same⟩ ?_ ?_
        · rw [zip_fst el]
          have := congrArg (List.map keyD) h1
          rw [List.map_map, List.map_map] at this
          exact this
        · rw [zip_snd el]; exact ra.mono (gn _)
      refine .inr ⟨α1.a i, .dK ks, hk, trivial, fun od => ?_⟩
      have z := s2.frz (d := .dict ((es.map fun p => keyD p.1).zip ds)) (u := .dK ks) (u' := .frz od (.dK ks)) e6 rfl rfl hk (.inr ⟨trivial, od, rfl⟩) (rep od)
      exact q _ _ α1 _ ((n1.trans n2).trans z.2) z.1 (.val (rep od))
    | _ => cases e⟩
/-! ### dicts of the world -/
def wGet (es : List (Key × WV)) (k : Key) : Option WV := (es.find? fun kv => decide (kv.1 = k)).map (·.2)
def wPut (es : List (Key × WV)) (k : Key) (v : WV) : List (Key × WV) :=
  if (es.any fun kv => decide (kv.1 = k)) = true then es.map (fun kv => if kv.1 = k then (kv.1, v) else kv) else es ++ [(k, v)]
theorem wGet_ok {K : PySem.W.Frag} {G : Hp} {α : Pl} {n : Nat} {k : Key} : ∀ {es : List (Key × WV)} {ks : List (Key × V)}, es.map (·.1) = ks.map (·.1) → RepVA K G α n (es.map (·.2)) (ks.map (·.2)) → (wGet es k = none ∧ valV ks k = none) ∨ ∃ x v, wGet es k = some x ∧ valV ks k = some v ∧ RepV K G α n x v
  | [], [], _, _ => .inl ⟨rfl, rfl⟩
  | [], _ :: _, h, _ => by simp at h
  | _ :: _, [], h, _ => by simp at h
  | p :: es, q :: ks, h, r => by
    rw [List.map_cons, List.map_cons] at h
    injection h with h1 h2
    rw [List.map_cons, List.map_cons] at r
    cases r with
    | cons r1 r2 =>
      by_cases c : q.1 = k
      · rw [valV_pos c]
        exact .inr ⟨p.2, q.2, by unfold wGet; rw [List.find?_cons_of_pos (by rw [h1]; exact decide_eq_true c)]; rfl, rfl, r1⟩
      · rw [valV_neg c]
        have : wGet (p :: es) k = wGet es k := by unfold wGet; rw [List.find?_cons_of_neg (by rw [h1]; simpa using c)]
        rw [this]
        exact wGet_ok h2 r2
theorem wAny_ok {k : Key} : ∀ {es : List (Key × WV)} {ks : List (Key × V)}, es.map (·.1) = ks.map (·.1) → (es.any fun kv => decide (kv.1 = k)) = ks.any fun kv => decide (kv.1 = k)
  | [], [], _ => rfl
  | [], _ :: _, h => by simp at h
  | _ :: _, [], h => by simp at h
  | p :: es, q :: ks, h => by
    rw [List.map_cons, List.map_cons] at h
    injection h with h1 h2
    rw [List.any_cons, List.any_cons, h1, wAny_ok h2]
theorem wRep_ok {K : PySem.W.Frag} {G : Hp} {α : Pl} {n : Nat} {k : Key} {x : WV} {v : V} (rv : RepV K G α n x v) : ∀ {es : List (Key × WV)} {ks : List (Key × V)}, es.map (·.1) = ks.map (·.1) → RepVA K G α n (es.map (·.2)) (ks.map (·.2)) →
    (es.map fun kv => if kv.1 = k then (kv.1, x) else kv).map (·.1) = (ks.map fun kv => if kv.1 = k then (kv.1, v) else kv).map (·.1) ∧ RepVA K G α n ((es.map fun kv => if kv.1 = k then (kv.1, x) else kv).map (·.2)) ((ks.map fun kv => if kv.1 = k then (kv.1, v) else kv).map (·.2))
  | [], [], _, _ => ⟨rfl, .nil⟩
  | [], _ :: _, h, _ => by simp at h
  | _ :: _, [], h, _ => by simp at h
  | p :: es, q :: ks, h, r => by
    rw [List.map_cons, List.map_cons] at h
    injection h with h1 h2
    rw [List.map_cons, List.map_cons] at r
    cases r with
    | cons r1 r2 =>
      obtain ⟨i1, i2⟩ := wRep_ok (k := k) rv h2 r2
      rw [List.map_cons, List.map_cons, List.map_cons, List.map_cons, List.map_cons, List.map_cons]
      by_cases c : q.1 = k
      · rw [if_pos (h1.trans c), if_pos c]
        exact ⟨by rw [i1, h1], .cons rv i2⟩
      · rw [if_neg (fun z => c (h1.symm.trans z)), if_neg c]
        exact ⟨by rw [i1, h1], .cons r1 i2⟩
theorem wPut_ok {K : PySem.W.Frag} {G : Hp} {α : Pl} {n : Nat} {k : Key} {x : WV} {v : V} (rv : RepV K G α n x v) {es : List (Key × WV)} {ks : List (Key × V)} (h : es.map (·.1) = ks.map (·.1)) (r : RepVA K G α n (es.map (·.2)) (ks.map (·.2))) :
    (wPut es k x).map (·.1) = (putK ks k v).map (·.1) ∧ RepVA K G α n ((wPut es k x).map (·.2)) ((putK ks k v).map (·.2)) := by
  unfold wPut putK
  rw [wAny_ok h]
  split
  · exact wRep_ok rv h r
  · rw [List.map_append, List.map_append, List.map_append, List.map_append]
    exact ⟨by rw [h]; rfl, r.app (.cons rv .nil)⟩
theorem WOk.dk {K : PySem.W.Frag} {F : Fr} {H0 G H : Hp} {α : Pl} {w : Wd} (W : WOk K cl F H0 G H α w) {h : Nat} {es : List (Key × WV)} (e : w[h]? = some (.dK es)) : ∃ ks, H (α.a h) = some (.dK ks) ∧ es.map (·.1) = ks.map (·.1) ∧ RepVA K G α w.length (es.map (·.2)) (ks.map (·.2)) := W.obj h _ e
theorem key_of {K : PySem.W.Frag} {G : Hp} {d : PyData} {kk : Key} {y : V} (h : unK d = some kk) (r : Rep K G d y) : y = kV kk := key_rep (H := G) h (.val r)
/-- d[k] -/
def mDGet (fr : MR) (fk : ME) : MQ := fun ρ w => (fr ρ w).bind fun x => (fk ρ x.2).bind fun y => match y.2[x.1]? with
  | some (.dK es) => (unK y.1).bind fun k => (wGet es k).map fun z => (z, y.2)
  | _ => none
theorem q_dget (hr : Room k X.A) (ha : DR cl X a fr) (hb : DM cl X .val b fb) (hs : NoSl b := by intro _ _; rfl) : DQ cl X (.Subscript a b pos) (mDGet fr fb) :=
  ⟨(pe_dget (hu_of hr) ha.pe hb.pe hs).imp fun σ H Q ⟨F, H0, G, ρ, w, α, x, w', s, e, q⟩ => by
    obtain ⟨⟨h, w1⟩, e1, e⟩ := bind_some e
    obtain ⟨⟨d, w2⟩, e2, e⟩ := bind_some e
    refine ⟨F, H0, G, ρ, w, α, h, w1, s, e1, fun G1 H1 α1 n1 s1 hh => ⟨F, H0, G1, ρ, w1, α1, d, w2, s1, e2, fun G2 H2 α2 v n2 s2 r2 => ?_⟩⟩
    split at e
    · rename_i es e5
      obtain ⟨kk, e6, e⟩ := bind_some e
      obtain ⟨z, e7, e8⟩ := map_some e
      cases e8
      obtain ⟨ks, hk, h1, h2⟩ := s2.ww.dk e5
      rcases wGet_ok (k := kk) h1 h2 with ⟨z1, _⟩ | ⟨x', v', z1, z2, z3⟩
      · rw [z1] at e7; cases e7
      · rw [z1] at e7; cases e7
        rw [← (n2.al h hh).1]
        refine ⟨_, v', rfl, ?_, q G2 H2 α2 v' (n1.trans n2) s2 z3⟩
        rw [key_of e6 r2.1, ← z2]
        exact .k hk
    · cases e⟩
/-- k in d, k not in d -/
def mDIn (neg : Bool) (fk : ME) (fr : MR) : MB := fun ρ w => (fk ρ w).bind fun y => (fr ρ y.2).bind fun x => match x.2[x.1]? with
  | some (.dK es) => (unK y.1).map fun k => (neg ^^ (wGet es k).isSome, x.2)
  | _ => none
theorem wIn_ok {neg : Bool} {K : PySem.W.Frag} {cl : Str → Addr} {tb : L2.TE} (wf : ∀ σ H Q, (∃ F H0 G ρ w α b w', Nok K cl F H0 G ρ σ H w α ∧ mDIn neg fb fr ρ w = some (b, w') ∧ ∀ G' H' α', Nx G H w α G' H' w' α' → Nok K cl F H0 G' ρ σ H' w' α' → Q (.bl b) H') → tb σ H Q) : ∀ σ H Q, tTM K cl (mDIn neg fb fr) σ H Q → tTest tb σ H Q := fun σ H Q ⟨F, H0, G, ρ, w, α, b, w', s, e, q⟩ =>
  wf σ H _ ⟨F, H0, G, ρ, w, α, b, w', s, e, fun G' H' α' n s' => ⟨b, rfl, q G' H' α' n s'⟩⟩
theorem din_core {neg : Bool} {K : PySem.W.Frag} {cl : Str → Addr} {σ : L2.St} {H : Hp} {Q : VK} (h : ∃ F H0 G ρ w α b w', Nok K cl F H0 G ρ σ H w α ∧ mDIn neg fb fr ρ w = some (b, w') ∧ ∀ G' H' α', Nx G H w α G' H' w' α' → Nok K cl F H0 G' ρ σ H' w' α' → Q (.bl b) H') :
    tM K cl .val fb σ H fun y H1 => tR K cl fr σ H1 fun x H2 => ∃ a o, x = .ref a ∧ DGet H2 a y o ∧ Q (.bl (neg ^^ o.isSome)) H2 := by
  obtain ⟨F, H0, G, ρ, w, α, b, w', s, e, q⟩ := h
  obtain ⟨⟨d, w1⟩, e1, e⟩ := bind_some e
  obtain ⟨⟨h, w2⟩, e2, e⟩ := bind_some e
  refine ⟨F, H0, G, ρ, w, α, d, w1, s, e1, fun G1 H1 α1 y n1 s1 r1 => ⟨F, H0, G1, ρ, w1, α1, h, w2, s1, e2, fun G2 H2 α2 n2 s2 hh => ?_⟩⟩
  split at e
  · rename_i es e5
    obtain ⟨kk, e6, e8⟩ := map_some e
    cases e8
    obtain ⟨ks, hk, h1, h2⟩ := s2.ww.dk e5
    refine ⟨_, valV ks kk, rfl, by rw [key_of e6 r1.1]; exact .k hk, ?_⟩
    have : (valV ks kk).isSome = (wGet es kk).isSome := by
      rcases wGet_ok (k := kk) h1 h2 with ⟨z1, z2⟩ | ⟨x', v', z1, z2, z3⟩ <;> rw [z1, z2] <;> rfl
    rw [this]
    exact q G2 H2 α2 (n1.trans n2) s2
  · cases e
theorem mt_din (hr : Room k X.A) (ha : DM cl X .val a fb) (hb : DR cl X b fr) (hm : behindInMarks .In b = false := by rfl) : DTM cl X (.Compare a [.In] [b] pos) (mDIn false fb fr) :=
  ⟨(pt_cmp (pc_din (hu_of hr) ha.pe hb.pe) hm).imp (wIn_ok fun σ H Q h => by
    obtain ⟨F, H0, G, ρ, w, α, d, w1, s, e1, z⟩ := din_core h
    refine ⟨F, H0, G, ρ, w, α, d, w1, s, e1, fun G1 H1 α1 y n1 s1 r1 => ?_⟩
    obtain ⟨F2, H02, G2, ρ2, w2, α2, h2, w3, s2, e2, z2⟩ := z G1 H1 α1 y n1 s1 r1
    refine ⟨F2, H02, G2, ρ2, w2, α2, h2, w3, s2, e2, fun G3 H3 α3 n3 s3 hh => ?_⟩
    obtain ⟨a, o, e3, e4, e5⟩ := z2 G3 H3 α3 n3 s3 hh
    exact ⟨a, o, e3, e4, by rw [Bool.false_xor] at e5; exact e5⟩)⟩
theorem mt_dnotin (hr : Room k X.A) (ha : DM cl X .val a fb) (hb : DR cl X b fr) (hm : behindInMarks .NotIn b = false := by rfl) : DTM cl X (.Compare a [.NotIn] [b] pos) (mDIn true fb fr) :=
  ⟨(pt_cmp (pc_dnotin (hu_of hr) ha.pe hb.pe) hm).imp (wIn_ok fun σ H Q h => by
    obtain ⟨F, H0, G, ρ, w, α, d, w1, s, e1, z⟩ := din_core h
    refine ⟨F, H0, G, ρ, w, α, d, w1, s, e1, fun G1 H1 α1 y n1 s1 r1 => ?_⟩
    obtain ⟨F2, H02, G2, ρ2, w2, α2, h2, w3, s2, e2, z2⟩ := z G1 H1 α1 y n1 s1 r1
    refine ⟨F2, H02, G2, ρ2, w2, α2, h2, w3, s2, e2, fun G3 H3 α3 n3 s3 hh => ?_⟩
    obtain ⟨a, o, e3, e4, e5⟩ := z2 G3 H3 α3 n3 s3 hh
    exact ⟨a, o, e3, e4, by rw [Bool.true_xor] at e5; exact e5⟩)⟩
/-- d[k] = v -/
def mDPut (fv : MQ) (fr : MR) (fk : ME) : MS := fun ρ w => (fv ρ w).bind fun v => (fr ρ v.2).bind fun x => (fk ρ x.2).bind fun y => match y.2[x.1]? with
  | some (.dK es) => (unK y.1).bind fun k => if es.length < sizeLine then some (.nx ρ, y.2.set x.1 (.dK (wPut es k v.1))) else none
  | _ => none
theorem ms_dput (hr : Room k X.A) (he : DQ cl X e fq) (ha : DR cl X a fr) (hb : DM cl X .val b fb) (hs : swapsWith e (some (.Subscript a b tpos)) pos.line X.env = pure false := by rfl) : DSM cl X rk (.Assign [.Subscript a b tpos] e pos) (mDPut fq fr fb) :=
  ⟨(ps_dput (hu_of hr) ha.pe hb.pe he.pe hs).imp fun D σ H ⟨F, H0, G, ρ, w, α, o, w', s, e, q⟩ => by
    obtain ⟨⟨xv, w1⟩, e1, e⟩ := bind_some e
    obtain ⟨⟨h, w2⟩, e2, e⟩ := bind_some e
    obtain ⟨⟨d, w3⟩, e3, e⟩ := bind_some e
    refine ⟨F, H0, G, ρ, w, α, xv, w1, s, e1, fun G1 H1 α1 v n1 s1 r1 => ⟨F, H0, G1, ρ, w1, α1, h, w2, s1, e2, fun G2 H2 α2 n2 s2 hh => ⟨F, H0, G2, ρ, w2, α2, d, w3, s2, e3, fun G3 H3 α3 y n3 s3 r3 => ?_⟩⟩⟩
    split at e
    · rename_i es e5
      obtain ⟨kk, e6, e⟩ := bind_some e
      obtain ⟨hl, e⟩ := if_some e
      cases e
      obtain ⟨ks, hk, h1, h2⟩ := s3.ww.dk e5
      rw [← (n3.al h hh).1]
      have n23 := n2.trans n3
      obtain ⟨p1, p2⟩ := wPut_ok (k := kk) (r1.mono n23.g n23.n n23.al) h1 h2
      have t := s3.turn (o' := .dK (wPut es kk xv)) (u := .dK (putK ks kk v)) e5 rfl ⟨_, upd_same, p1, p2⟩
      refine ⟨_, _, rfl, ?_, q G3 σ _ α3 ((n1.trans n23).trans t.2).wx t.1⟩
      rw [key_of e6 r3.1]
      have := congrArg List.length h1
      rw [List.length_map, List.length_map] at this
      exact .k hk (by omega)
    · cases e⟩
/-- {} -/
def mNewD : MR := fun _ w => some (w.length, w ++ [.dK []])
theorem r_dnew : DR cl X (.Dict [] [] pos) mNewD := ⟨pe_dnewK.imp fun σ H Q ⟨F, H0, G, ρ, w, α, i, w', s, e, q⟩ => by
  cases e
  intro p np
  have z := s.make (p := p) (x := p) (o := .dK []) (H' := upd H p (.dK [])) np (fun e => by cases e) (fun q ne _ => upd_ne ne) ⟨[], by rw [show (α.put w.length p p).a w.length = p from if_pos rfl]; exact upd_same, rfl, .nil⟩
  have := q G _ _ z.2 z.1 (by show w.length < (w ++ [_]).length; simp)
  rw [show (α.put w.length p p).a w.length = p from if_pos rfl] at this
  exact this⟩
/-! ### own names frozen -/
def mFz (i : Nat) (f : MS) : MS := fun ρ w => match ρ[i]? with
  | some (.own d) => f (ρ.set i (.val d)) w
  | some (.val _) => f ρ w
  | _ => none
theorem ms_fz {st : Stmt} {g : MS} (i : Nat) (h : DSM cl X rk st g) : DSM cl X rk st (mFz i g) := ⟨(ps_fz h.ps).imp fun D σ H ⟨F, H0, G, ρ, w, α, o, w', s, e, q⟩ => by
  unfold mFz at e
  split at e
  · rename_i d h
    obtain ⟨a, u, hu, r⟩ := s.sok.freeze h
    rcases r with ⟨G', eg, s'⟩ | ⟨mu, r⟩
    · exact .inl ⟨F, H0, G', _, w, α, o, w', s.sok' eg s', e, q.grow (.ex eg)⟩
    · exact .inr ⟨a, u, hu, mu, fun od => (r od).elim fun G' z => ⟨F, H0, G', _, w, α, o, w', s.sok' z.1 z.2, e, q.grow (.ex z.1)⟩⟩
  · exact .inl ⟨F, H0, G, ρ, w, α, o, w', s, e, q⟩
  · cases e⟩
end
/-! ### from outside: a function on data -/
def outD (Fn : MF) : List PyData → Option PyData := fun ds => (Fn (ds.map .d) []).bind fun x => match x.1 with
  | .d d => some d
  | .r _ => none
theorem rws_of {K : PySem.W.Frag} {n : Nat} {α : Pl} {G H : Hp} : ∀ {ms : List Md} {ds : List PyData} {vs : List V}, ArgMd ms → RMs K H H G H ms ds vs → RWs K n α G H (ms.map .md) (ds.map .d) vs
  | _, _, _, _, .nil => .nil
  | m :: ms, _, _, am, .cons h t => by
    have r := rws_of (n := n) (α := α) (fun m hm => am m (List.mem_cons_of_mem _ hm)) t
    rcases am m List.mem_cons_self with rfl | rfl | rfl
    · exact .val h r
    · exact .bor h r
    · exact .scr h r
theorem outD_ok {P : Program} {w : World} {K : PySem.W.Frag} {mg : Str → Option Value} {base : Heap} {cl : Str → Addr} {k : Nat} {f : Addr} {fd : FuncData} {ps : List Str} {m : Md} {ms : List Md} {ak : List AK} {Fn : MF} (h : FnOk P w K mg base CX0 k f fd ps (spW K cl (.md m) ak Fn)) (hk : ak = ms.map .md) (am : ArgMd ms) (hm : MN m := by first | exact Or.inl rfl | exact Or.inr rfl) :
    FnOk P w K mg base CX0 k f fd ps (spD K m ms (outD Fn)) := by
  subst hk
  refine h.imp fun vs H Q E ⟨hl, G, ds, d, eg, ra, hF, q⟩ => ?_
  obtain ⟨⟨x, w'⟩, e1, e2⟩ := bind_some hF
  cases x with
  | r h => cases e2
  | d d' =>
    cases e2
    have nd : ∀ p, ¬ dom (⟨fun _ => 0, fun _ => 0⟩ : Pl) [] p := fun p ⟨h, o, e, _⟩ => by simp at e
    have e0 : hideW H (dom (⟨fun _ => 0, fun _ => 0⟩ : Pl) []) = H := by
      funext p
      exact hideW_out (nd p)
    refine ⟨hl.trans (by simp), G, [], ⟨fun _ => 0, fun _ => 0⟩, _, _, w', ⟨eg, fun h _ o _ hh => (by simp at hh), fun h o e => (by simp at e), fun p hp => absurd hp (nd p)⟩, ?_, e1, fun G' H' α' v b r => ?_⟩
    · rw [e0]; exact rws_of am ra
    · have gx := b.gx
      rw [e0] at gx r
      refine q G' H' v ⟨gx.g, gx.h.trans hideW_le, b.ww.gh, gx.nw⟩ ?_
      rcases hm with rfl | rfl
      · exact r.1
      · exact r.1
end DV
namespace DV
open PySem L2 PySem.Spec PyProof.Rows
theorem fn_okWB {P : Program} {w : World} {K : PySem.W.Frag} {mg : Str → Option Value} {base : Heap} {cl : Str → Addr} {x qual : Str} {st : Stmt} {f : Addr} {fd : FuncData} {N ps : List Str} {k n : Nat} {ms : List AK} {rk : RK} {b : MS} (F : Fun K x qual st f fd) (S : FnScope N ps (defScope st))
    (hm : ms.length = ps.length) (hn : N.length = n)
    (body : ∀ (cdv : Value) (A : Around) (outer : List Env) (s : Shared) (H : Hp) (E : XK), Room k (A.deeper (PyProof.Rows.envOfC qual (defScope st) s.heap.objs.size f cdv)) → DBM cl (cxOf CX0 P w K mg base N qual (defScope st) f cdv A outer s H E).nox rk (defBody st) b) :
    FnOk P w K mg base CX0 (k + 1) f fd ps (spW K cl rk ms (box (runW n rk ms b))) := by
  rw [box_eq]; exact fn_okW F S hm hn body
theorem outD_okB {P : Program} {w : World} {K : PySem.W.Frag} {mg : Str → Option Value} {base : Heap} {cl : Str → Addr} {x qual : Str} {st : Stmt} {f : Addr} {fd : FuncData} {N ps : List Str} {k n : Nat} {m : Md} {ms : List Md} {ak : List AK} {b : MS} (F : Fun K x qual st f fd) (S : FnScope N ps (defScope st))
    (hm : ak.length = ps.length) (hn : N.length = n) (hk : ak = ms.map .md) (am : ArgMd ms)
    (body : ∀ (cdv : Value) (A : Around) (outer : List Env) (s : Shared) (H : Hp) (E : XK), Room k (A.deeper (PyProof.Rows.envOfC qual (defScope st) s.heap.objs.size f cdv)) → DBM cl (cxOf CX0 P w K mg base N qual (defScope st) f cdv A outer s H E).nox (.md m) (defBody st) b) (hmn : MN m := by first | exact Or.inl rfl | exact Or.inr rfl) :
    FnOk P w K mg base CX0 (k + 1) f fd ps (spD K m ms (box (outD (runW n (.md m) ak b)))) := by
  rw [box_eq]; exact outD_ok (fn_okW F S hm hn body) hk am hmn
end DV
namespace DV
theorem aq_nil : ∀ m ∈ ([] : List AK), m = .q := fun m hm => absurd hm List.not_mem_nil
theorem aq_cons {ms : List AK} (h : ∀ m ∈ ms, m = .q) : ∀ m ∈ AK.q :: ms, m = .q := fun m hm => (List.mem_cons.mp hm).elim id (h m)
end DV

namespace DV
open PySem L2 PySem.Spec PyProof.Rows
/-! ### instances: attributes -/
def wPutF (f : Str) (x : WV) : List (Str × WV) → List (Str × WV)
  | [] => [(f, x)]
  | (g, y) :: r => if g = f then (g, x) :: r else (g, y) :: wPutF f x r
section
variable {K : PySem.W.Frag} {cl : Str → Addr} {F : Fr} {H0 G H : Hp} {α : Pl} {w : Wd} {n : Nat}
theorem wLook_ok {f : Str} : ∀ {fs : List (Str × WV)} {vs : List (Str × V)}, fs.map (·.1) = vs.map (·.1) → RepVA K G α n (fs.map (·.2)) (vs.map (·.2)) → (fs.lookup f = none ∧ vs.lookup f = none) ∨ ∃ x v, fs.lookup f = some x ∧ vs.lookup f = some v ∧ RepV K G α n x v
  | [], [], _, _ => .inl ⟨rfl, rfl⟩
  | [], _ :: _, h, _ => by simp at h
  | _ :: _, [], h, _ => by simp at h
  | (g, x) :: fs, (g', v) :: vs, h, r => by
    rw [List.map_cons, List.map_cons] at h
    injection h with h1 h2
    have h1 : g = g' := h1
    subst h1
    cases r with
    | cons r1 r2 =>
      by_cases c : f == g
      · have e1 : List.lookup f ((g, x) :: fs) = some x := by simp only [List.lookup, c]
        have e2 : List.lookup f ((g, v) :: vs) = some v := by simp only [List.lookup, c]
        exact .inr ⟨x, v, e1, e2, r1⟩
      · have c : (f == g) = false := by simpa using c
        have e1 : List.lookup f ((g, x) :: fs) = fs.lookup f := by simp only [List.lookup, c]
        have e2 : List.lookup f ((g, v) :: vs) = vs.lookup f := by simp only [List.lookup, c]
        rw [e1, e2]
        exact wLook_ok h2 r2
theorem wPutF_ok {f : Str} {x : WV} {v : V} (rv : RepV K G α n x v) : ∀ {fs : List (Str × WV)} {vs : List (Str × V)}, fs.map (·.1) = vs.map (·.1) → RepVA K G α n (fs.map (·.2)) (vs.map (·.2)) → (wPutF f x fs).map (·.1) = (putF f v vs).map (·.1) ∧ RepVA K G α n ((wPutF f x fs).map (·.2)) ((putF f v vs).map (·.2))
  | [], [], _, _ => ⟨rfl, .cons rv .nil⟩
  | [], _ :: _, h, _ => by simp at h
  | _ :: _, [], h, _ => by simp at h
  | (g, y) :: fs, (g', u) :: vs, h, r => by
    rw [List.map_cons, List.map_cons] at h
    injection h with h1 h2
    have h1 : g = g' := h1
    subst h1
    cases r with
    | cons r1 r2 =>
      obtain ⟨i1, i2⟩ := wPutF_ok (f := f) rv h2 r2
      unfold wPutF putF
      by_cases c : g = f
      · rw [if_pos c, if_pos c]
        exact ⟨by rw [List.map_cons, List.map_cons, h2], .cons rv r2⟩
      · rw [if_neg c, if_neg c]
        exact ⟨by rw [List.map_cons, List.map_cons, i1], .cons r1 i2⟩
theorem WOk.ins (W : WOk K cl F H0 G H α w) {h : Nat} {c : Str} {fs : List (Str × WV)} (e : w[h]? = some (.ins c fs)) : ∃ vs, H (α.a h) = some (.ins (cl c) (α.x h) vs) ∧ H (α.x h) = some (.own (α.a h)) ∧ fs.map (·.1) = vs.map (·.1) ∧ RepVA K G α w.length (fs.map (·.2)) (vs.map (·.2)) := W.obj h _ e
end
/-- o.f -/
def mFld (c f : Str) (fr : MR) : MQ := fun ρ w => (fr ρ w).bind fun x => match x.2[x.1]? with
  | some (.ins c' fs) => if c' = c then (fs.lookup f).map fun v => (v, x.2) else none
  | _ => none
/-- o.f = v: the value first -/
def mSetF (c f : Str) (fr : MR) (fv : MQ) : MS := fun ρ w => (fv ρ w).bind fun v => (fr ρ v.2).bind fun x => match x.2[x.1]? with
  | some (.ins c' fs) => if c' = c ∧ fs.length < 1000 then some (.nx ρ, x.2.set x.1 (.ins c (wPutF f v.1 fs))) else none
  | _ => none
section
variable {cl : Str → Addr} {X : Cx} {rk : RK} {m : Md} {e o : Expr} {es : List Expr} {ms : List AK} {fr : MR} {fq : MQ} {r r2 : MA} {pos pos' p apos : Pos} {c f x : Str} {k : Nat} {ps : List Str} {Fn : MF}
theorem q_fld (he : DR cl X e fr) (hc : Cls X.K (cl c)) (hn : NoAttr X.K (cl c) f) (hb : attributeBase e f X.env (eval e X.env) = eval e X.env := by rfl) : DQ cl X (.Attribute e f pos) (mFld c f fr) :=
  ⟨(pe_fld he.pe hb).imp fun σ H Q ⟨F, H0, G, ρ, w, α, x, w', s, e, q⟩ => by
    obtain ⟨⟨h, w1⟩, e1, e⟩ := bind_some e
    refine ⟨F, H0, G, ρ, w, α, h, w1, s, e1, fun G1 H1 α1 n1 s1 hh => ?_⟩
    split at e
    · rename_i c' fs e5
      obtain ⟨hcc, ee⟩ := ite_some e
      subst hcc
      obtain ⟨v, e6, e7⟩ := map_some ee
      cases e7
      obtain ⟨vs, h1, h2, h3, h4⟩ := s1.ww.ins e5
      rcases wLook_ok (f := f) h3 h4 with ⟨z, _⟩ | ⟨x', v', z1, z2, z3⟩
      · rw [z] at e6; cases e6
      · rw [z1] at e6; cases e6
        exact ⟨_, _, _, _, v', rfl, h1, hc, hn, z2, q G1 H1 α1 v' n1 s1 z3⟩
    · cases e⟩
theorem ms_fld (ho : DR cl X o fr) (hv : DQ cl X e fq) (hc : Cls X.K (cl c)) (hn : NoAttr X.K (cl c) f) (hs : swapsWith e (some (.Attribute o f pos')) pos.line X.env = pure false := by rfl) : DSM cl X rk (.Assign [.Attribute o f pos'] e pos) (mSetF c f fr fq) :=
  ⟨(ps_fld ho.pe hv.pe hs).imp fun D σ H ⟨F, H0, G, ρ, w, α, o, w', s, e, q⟩ => by
    obtain ⟨⟨xv, w1⟩, e1, e⟩ := bind_some e
    obtain ⟨⟨h, w2⟩, e2, e⟩ := bind_some e
    refine ⟨F, H0, G, ρ, w, α, xv, w1, s, e1, fun G1 H1 α1 y n1 s1 r1 => ⟨F, H0, G1, ρ, w1, α1, h, w2, s1, e2, fun G2 H2 α2 n2 s2 hh => ?_⟩⟩
    split at e
    · rename_i c' fs e5
      obtain ⟨⟨hcc, hl⟩, ee⟩ := if_some e
      subst hcc
      cases ee
      obtain ⟨vs, h1, h2, h3, h4⟩ := s2.ww.ins e5
      have hl2 : vs.length < 1000 := by
        have := congrArg List.length h3
        rw [List.length_map, List.length_map] at this
        omega
      obtain ⟨p1, p2⟩ := wPutF_ok (f := f) (r1.mono n2.g n2.n n2.al) h3 h4
      have ne : α2.x h ≠ α2.a h := fun z => by rw [z, h1] at h2; cases h2
      have t := s2.turn (o' := .ins c' (wPutF f xv fs)) (u := .ins (cl c') (α2.x h) (putF f y vs)) e5 rfl ⟨_, upd_same, by rw [upd_ne ne]; exact h2, p1, p2⟩
      exact ⟨_, _, _, _, rfl, h1, hc, hn, hl2, q G2 σ _ α2 ((n1.trans n2).trans t.2).wx t.1⟩
    · cases e⟩
/-! ### methods -/
def mMeth (c m : Str) (Fn : MF) (fr : MR) (r : MA) : MQ := fun ρ w => (fr ρ w).bind fun x => match x.2[x.1]? with
  | some (.ins c' fs) => if c' = c ∧ (fs.lookup m).isNone = true then (r ρ x.2).bind fun y => Fn (.r x.1 :: y.1) y.2 else none
  | _ => none
def MethW (P : Program) (w : World) (K : PySem.W.Frag) (mg : Str → Option Value) (base : Heap) (cl : Str → Addr) (c x : Str) (ps : List Str) (k : Nat) (rk : RK) (ms : List AK) (F : MF) : Prop :=
  ∃ (f : Addr) (fd : FuncData), FnOk P w K mg base CX0 k f fd ps (spW K cl rk (.q :: ms) F) ∧ Cls K (cl c) ∧ Meth K (cl c) x f ∧ Binds K fd ps []
/-- what a call of a def over the world leaves -/
theorem rv_new {K : PySem.W.Frag} {F : Fr} {H0 G H G' H' G2 H2 : Hp} {ρ : Rho} {σ : L2.St} {w w1 w2 : Wd} {α α' α2 : Pl} {d : PyData} {v : V} (hm : MN m) (n : Nx G H w α G' H' w1 α') (s' : Nok K cl F H0 G' ρ σ H' w1 α') (b : Bk K cl G' H' w1 α' G2 H2 w2 α2)
    (r2 : RN K m (hideW H' (dom α' w1)) w2 α2 G2 H2 d v) : RN K m H w2 α2 G2 H2 d v := by
  rcases hm with rfl | rfl
  · exact .val r2.1
  · obtain ⟨⟨p, rfl, np, g, o⟩, wn⟩ := r2
    refine ⟨⟨p, rfl, ?_, g, o⟩, wn⟩
    have z : ¬ dom α' w1 p := fun z => (b.le p z).elim (wn rfl p rfl) fun y => y g
    rw [hideW_out z] at np
    exact n.dom' s'.ww s'.gh np
theorem methQ_of {mm : Str} : ∀ σ H Q, tQ X.K cl (mMeth c mm Fn fr r) σ H Q → tMeth (cl c) mm (spW X.K cl .any (.q :: ms) Fn) [] E0 (tR X.K cl fr) (tAM X.K cl ms r) σ H Q := fun σ H Q ⟨F, H0, G, ρ, w, α, d, w', s, e, q⟩ => by
  obtain ⟨⟨h, w1⟩, e1, e⟩ := bind_some e
  refine ⟨F, H0, G, ρ, w, α, h, w1, s, e1, fun G1 H1 α1 n1 s1 hh => ?_⟩
  split at e
  · rename_i c' fs e5
    obtain ⟨⟨hcc, hl⟩, ee⟩ := ite_some e
    subst hcc
    obtain ⟨⟨ds, w2⟩, e2, e3⟩ := bind_some ee
    obtain ⟨vs, h1, h2, h3, h4⟩ := s1.ww.ins e5
    have hl2 : vs.lookup mm = none := by
      rcases wLook_ok (f := mm) h3 h4 with ⟨_, z⟩ | ⟨x', v', z1, z2, z3⟩
      · exact z
      · rw [z1] at hl; cases hl
    refine ⟨_, _, vs, rfl, h1, hl2, F, H0, G1, ρ, w1, α1, ds, w2, s1, e2, fun G2 H2 α2 us n2 s2 ra => ?_⟩
    show spW X.K cl .any (.q :: ms) Fn (V.ref (α1.a h) :: (us ++ [])) H2 Q E0
    rw [List.append_nil, ← (n2.al h hh).1]
    exact ⟨congrArg (· + 1) ra.len.2, G2, w2, α2, _, _, _, s2.ww', .q (.r (Nat.lt_of_lt_of_le hh n2.n)) ra, e3, fun G3 H3 α3 v b r3 => q G3 H3 α3 v ((n1.trans n2).trans b.nx) (s2.back b) r3⟩
  · cases e
theorem methM_of {mm : Str} (hm : MN m) : ∀ σ H Q, tM X.K cl m (mD (mMeth c mm Fn fr r)) σ H Q → tMeth (cl c) mm (spW X.K cl (.md m) (.q :: ms) Fn) [] E0 (tR X.K cl fr) (tAM X.K cl ms r) σ H Q := fun σ H Q ⟨F, H0, G, ρ, w, α, d, w', s, e, q⟩ => by
  obtain ⟨⟨d0, w3⟩, e0, e9⟩ := bind_some e
  cases d0 with
  | r h => cases e9
  | d d0 =>
    cases e9
    obtain ⟨⟨h, w1⟩, e1, e⟩ := bind_some e0
    refine ⟨F, H0, G, ρ, w, α, h, w1, s, e1, fun G1 H1 α1 n1 s1 hh => ?_⟩
    split at e
    · rename_i c' fs e5
      obtain ⟨⟨hcc, hl⟩, ee⟩ := ite_some e
      subst hcc
      obtain ⟨⟨ds, w2⟩, e2, e3⟩ := bind_some ee
      obtain ⟨vs, h1, h2, h3, h4⟩ := s1.ww.ins e5
      have hl2 : vs.lookup mm = none := by
        rcases wLook_ok (f := mm) h3 h4 with ⟨_, z⟩ | ⟨x', v', z1, z2, z3⟩
        · exact z
        · rw [z1] at hl; cases hl
      refine ⟨_, _, vs, rfl, h1, hl2, F, H0, G1, ρ, w1, α1, ds, w2, s1, e2, fun G2 H2 α2 us n2 s2 ra => ?_⟩
      show spW X.K cl (.md m) (.q :: ms) Fn (V.ref (α1.a h) :: (us ++ [])) H2 Q E0
      rw [List.append_nil, ← (n2.al h hh).1]
      exact ⟨congrArg (· + 1) ra.len.2, G2, w2, α2, _, _, _, s2.ww', .q (.r (Nat.lt_of_lt_of_le hh n2.n)) ra, e3, fun G3 H3 α3 v b r3 => q G3 H3 α3 v ((n1.trans n2).trans b.nx) (s2.back b) (rv_new hm (n1.trans n2) s2 b r3)⟩
    · cases e
variable {mm : Str} {pl : Sem Bool}
theorem m_meth (F : MethW X.prog X.w X.K X.mg X.base cl c mm ps k (.md m) ms Fn) (hr : Room k X.A) (he : DR cl X o fr) (ha : DAM cl X ms (e :: es) r) (hrm : MN m := by first | exact Or.inl rfl | exact Or.inr rfl)
    (hst : starEach (e :: es) X.env = (false, eval e X.env) :: starEach es X.env := by rfl) (hpl : (backTo pos (starEach es X.env)).any (·.1) = false := by rfl)
    (ht : eval (.Call (.Attribute o mm apos) (e :: es) [] pos) X.env = (do
      let ov ← eval o X.env
      standAt apos.atName
      let (f, first) ← holding [ov] (getMethod ov mm pl)
      callWith pos f first (backTo pos (starEach (e :: es) X.env)) (backToKw pos (keywordEach [] X.env))) := by rfl) : DM cl X m (.Call (.Attribute o mm apos) (e :: es) [] pos) (mD (mMeth c mm Fn fr r)) := by
  obtain ⟨f, fd, F, hc, hm, hb⟩ := F
  exact ⟨(pe_meth he.pe hc hm F hr hb .nil pass0 ha.pa hst hpl ht).imp (methM_of hrm)⟩
theorem q_meth (F : MethW X.prog X.w X.K X.mg X.base cl c mm ps k .any ms Fn) (hr : Room k X.A) (he : DR cl X o fr) (ha : DAM cl X ms (e :: es) r)
    (hst : starEach (e :: es) X.env = (false, eval e X.env) :: starEach es X.env := by rfl) (hpl : (backTo pos (starEach es X.env)).any (·.1) = false := by rfl)
    (ht : eval (.Call (.Attribute o mm apos) (e :: es) [] pos) X.env = (do
      let ov ← eval o X.env
      standAt apos.atName
      let (f, first) ← holding [ov] (getMethod ov mm pl)
      callWith pos f first (backTo pos (starEach (e :: es) X.env)) (backToKw pos (keywordEach [] X.env))) := by rfl) : DQ cl X (.Call (.Attribute o mm apos) (e :: es) [] pos) (mMeth c mm Fn fr r) := by
  obtain ⟨f, fd, F, hc, hm, hb⟩ := F
  exact ⟨(pe_meth he.pe hc hm F hr hb .nil pass0 ha.pa hst hpl ht).imp methQ_of⟩
theorem meth_nil {sp : Sp} {σ : L2.St} {H : Hp} {Q : VK} {C : Addr} {ta : L2.TE} (hta : ∀ {σ H} {Q Q' : VK}, (∀ v H, Q v H → Q' v H) → ta σ H Q → ta σ H Q') (h : tMeth C mm sp [] E0 ta (tAM X.K cl [] maNil) σ H Q) : tMeth C mm sp [] E0 ta tNil σ H Q := by
  refine hta (fun x H1 => ?_) h
  rintro ⟨a, dx, fs, h1, h2, h3, F, H0, G, ρ, w, α, ds, w', s, e, q⟩
  cases e
  exact ⟨a, dx, fs, h1, h2, h3, q G H1 α [] .refl s .nil⟩
theorem tR_mono {K : PySem.W.Frag} {σ : L2.St} {H : Hp} {Q Q' : VK} (h : ∀ v H, Q v H → Q' v H) : tR K cl fr σ H Q → tR K cl fr σ H Q' := fun ⟨F, H0, G, ρ, w, α, i, w', s, e, q⟩ => ⟨F, H0, G, ρ, w, α, i, w', s, e, fun G' H' α' n s' hh => h _ _ (q G' H' α' n s' hh)⟩
theorem m_meth0 (F : MethW X.prog X.w X.K X.mg X.base cl c mm ps k (.md m) [] Fn) (hr : Room k X.A) (he : DR cl X o fr) (hrm : MN m := by first | exact Or.inl rfl | exact Or.inr rfl)
    (ht : eval (.Call (.Attribute o mm apos) [] [] pos) X.env = (do
      let ov ← eval o X.env
      standAt apos.atName
      let (f, first) ← holding [ov] (getMethod ov mm pl)
      callWith pos f first (backTo pos (starEach [] X.env)) (backToKw pos (keywordEach [] X.env))) := by rfl) : DM cl X m (.Call (.Attribute o mm apos) [] [] pos) (mD (mMeth c mm Fn fr maNil)) := by
  obtain ⟨f, fd, F, hc, hm, hb⟩ := F
  exact ⟨(pe_meth0 he.pe hc hm F hr hb .nil pass0 ht).imp fun σ H Q h => meth_nil (fun h => tR_mono h) (methM_of hrm σ H Q h)⟩
theorem q_meth0 (F : MethW X.prog X.w X.K X.mg X.base cl c mm ps k .any [] Fn) (hr : Room k X.A) (he : DR cl X o fr)
    (ht : eval (.Call (.Attribute o mm apos) [] [] pos) X.env = (do
      let ov ← eval o X.env
      standAt apos.atName
      let (f, first) ← holding [ov] (getMethod ov mm pl)
      callWith pos f first (backTo pos (starEach [] X.env)) (backToKw pos (keywordEach [] X.env))) := by rfl) : DQ cl X (.Call (.Attribute o mm apos) [] [] pos) (mMeth c mm Fn fr maNil) := by
  obtain ⟨f, fd, F, hc, hm, hb⟩ := F
  exact ⟨(pe_meth0 he.pe hc hm F hr hb .nil pass0 ht).imp fun σ H Q h => meth_nil (fun h => tR_mono h) (methQ_of σ H Q h)⟩
/-! ### properties -/
def mProp (c : Str) (Fn : MF) (fr : MR) : MQ := fun ρ w => (fr ρ w).bind fun x => match x.2[x.1]? with
  | some (.ins c' _) => if c' = c then Fn [.r x.1] x.2 else none
  | _ => none
def PropW (P : Program) (w : World) (K : PySem.W.Frag) (mg : Str → Option Value) (base : Heap) (cl : Str → Addr) (c x : Str) (ps : List Str) (k : Nat) (rk : RK) (F : MF) : Prop :=
  ∃ (p g : Addr) (fd : FuncData), FnOk P w K mg base CX0 k g fd ps (spW K cl rk [.q] F) ∧ Cls K (cl c) ∧ PropOf K (cl c) x p g ∧ Binds K fd ps []
theorem m_prop (F : PropW X.prog X.w X.K X.mg X.base cl c mm ps k (.md m) Fn) (hr : Room (k + 1) X.A) (he : DR cl X e fr) (hm : MN m := by first | exact Or.inl rfl | exact Or.inr rfl) (hb : attributeBase e mm X.env (eval e X.env) = eval e X.env := by rfl) : DM cl X m (.Attribute e mm pos) (mD (mProp c Fn fr)) := by
  obtain ⟨p, g, fd, F, hc, hp, hbb⟩ := F
  exact ⟨(pe_prop he.pe hc hp F hr hbb .nil pass0 hb).imp fun σ H Q ⟨F, H0, G, ρ, w, α, d, w', s, e, q⟩ => by
    obtain ⟨⟨d0, w3⟩, e0, e9⟩ := bind_some e
    cases d0 with
    | r h => cases e9
    | d d0 =>
      cases e9
      obtain ⟨⟨h, w1⟩, e1, e⟩ := bind_some e0
      refine ⟨F, H0, G, ρ, w, α, h, w1, s, e1, fun G1 H1 α1 n1 s1 hh => ?_⟩
      split at e
      · rename_i c' fs e5
        obtain ⟨hcc, ee⟩ := ite_some e
        subst hcc
        obtain ⟨vs, h1, h2, h3, h4⟩ := s1.ww.ins e5
        exact ⟨_, _, vs, rfl, h1, rfl, G1, w1, α1, _, _, _, s1.ww', (.q (.r hh) .nil), ee, fun G3 H3 α3 v b r3 => q G3 H3 α3 v (n1.trans b.nx) (s1.back b) (rv_new hm n1 s1 b r3)⟩
      · cases e⟩
end
/-! ### keywords; instances are made -/
structure DKM (cl : Str → Addr) (X : Cx) (ms : List AK) (kws : List Keyword) (f : MA) : Prop where
  pk : PK X kws (tAM X.K cl ms f)
theorem RWs.app {K : PySem.W.Frag} {n : Nat} {α : Pl} {G B : Hp} : ∀ {ms ms2 : List AK} {ds ds2 : List WV} {vs vs2 : List V}, RWs K n α G B ms ds vs → RWs K n α G B ms2 ds2 vs2 → RWs K n α G B (ms ++ ms2) (ds ++ ds2) (vs ++ vs2)
  | _, _, _, _, _, _, .nil, t => t
  | _, _, _, _, _, _, .q h s, t => .q h (s.app t)
  | _, _, _, _, _, _, .val h s, t => .val h (s.app t)
  | _, _, _, _, _, _, .bor h s, t => .bor h (s.app t)
  | _, _, _, _, _, _, .scr h s, t => .scr h (s.app t)
section
variable {cl : Str → Addr} {X : Cx} {rk : RK} {m : Md} {e o : Expr} {es : List Expr} {ms ms1 ms2 ms3 : List AK} {fm : ME} {fr : MR} {fq : MQ} {r r2 : MA} {pos pos' p apos kpos : Pos} {c f x : Str} {nm : Option Str} {k n : Nat} {ps ks : List Str} {Fn : MF} {kws : List Keyword} {dd : List WV} {dv : List V}
theorem mk_nil : DKM cl X [] [] maNil := ⟨⟨fun pos pins s σ H Q I h => pk_nil.run pos pins s σ H Q I (by
  obtain ⟨F, H0, G, ρ, w, α, ds, w', s, e, q⟩ := h
  cases e
  exact q G H α [] .refl s .nil)⟩⟩
theorem mk_val (ha : DM cl X .val e fm) (hr : DKM cl X ms kws r) : DKM cl X (.md .val :: ms) (⟨nm, e, kpos⟩ :: kws) (maD fm r) := ⟨⟨fun pos pins s σ H Q I h => (pk_cons ha.pe hr.pk).run pos pins s σ H Q I (by
  obtain ⟨F, H0, G, ρ, w, α, ds, w', s, e, q⟩ := h
  obtain ⟨⟨d, w1⟩, e1, e⟩ := bind_some e
  obtain ⟨⟨ds', w2⟩, e2, e3⟩ := map_some e
  cases e3
  exact ⟨F, H0, G, ρ, w, α, d, w1, s, e1, fun G1 H1 α1 v n1 s1 r1 => ⟨F, H0, G1, ρ, w1, α1, ds', w2, s1, e2, fun G' H' α' vs n s' ra => q G' H' α' (v :: vs) (n1.trans n) s' (.val (Rep.mono n.g r1.1) ra)⟩⟩)⟩⟩
theorem mk_valb (ha : DM cl X .val e fm) (hr : DKM cl X ms kws r) : DKM cl X (.md .bor :: ms) (⟨nm, e, kpos⟩ :: kws) (maD fm r) := ⟨⟨fun pos pins s σ H Q I h => (pk_cons ha.pe hr.pk).run pos pins s σ H Q I (by
  obtain ⟨F, H0, G, ρ, w, α, ds, w', s, e, q⟩ := h
  obtain ⟨⟨d, w1⟩, e1, e⟩ := bind_some e
  obtain ⟨⟨ds', w2⟩, e2, e3⟩ := map_some e
  cases e3
  exact ⟨F, H0, G, ρ, w, α, d, w1, s, e1, fun G1 H1 α1 v n1 s1 r1 => ⟨F, H0, G1, ρ, w1, α1, ds', w2, s1, e2, fun G' H' α' vs n s' ra => q G' H' α' (v :: vs) (n1.trans n) s' (.bor (.val (Rep.mono n.g r1.1)) ra)⟩⟩)⟩⟩
/-- a pure def with keywords, its arguments made over the world -/
def mFK (F : List PyData → Option PyData) (r r2 : MA) (dd : List PyData) : ME := fun ρ w => (r ρ w).bind fun a => (r2 ρ a.2).bind fun b => (F (unD a.1 ++ (unD b.1 ++ dd))).map fun d => (d, b.2)
theorem m_fnK {m1 m2 m3 : List Md} {F : List PyData → Option PyData} {dl : List PyData} (C : FnKw X.prog X.w X.K X.mg X.base x ps k m (m1 ++ (m2 ++ m3)) F n ks dv) (hr : Room k X.A) (ha : DAM cl X ms1 (e :: es) r) (hkw : DKM cl X ms2 kws r2) (h1 : ∀ q ∈ ms1, q = .md .val) (h2 : ∀ q ∈ ms2, q = .md .val) (hd : ∀ (H0 Hs G H : Hp), RMs X.K H0 Hs G H m3 dl dv)
    (a1 : ∀ q ∈ m1, q = .val ∨ q = .bor) (a2 : ∀ q ∈ m2, q = .val ∨ q = .bor) (hl1 : m1.length = ms1.length := by rfl) (hl2 : m2.length = ms2.length := by rfl) (hn : ms1.length = n := by rfl) (hk2 : ms2.length = ks.length := by rfl)
    (hrm : MN m := by first | exact Or.inl rfl | exact Or.inr rfl) (hg : Gl X x := by rfl) (hall : (backToKw pos (keywordEach kws X.env)).all (·.1.isSome) = true := by rfl) (hks : (backToKw pos (keywordEach kws X.env)).filterMap (·.1) = ks := by rfl)
    (hdb : (x == ("__debug__" : Str)) = false := by decide) (he : starEach (e :: es) X.env = (false, eval e X.env) :: starEach es X.env := by rfl)
    (hpl : ((backTo pos (starEach (e :: es) X.env)).any (·.1) || (backToKw pos (keywordEach kws X.env)).any (·.1.isNone)) = false := by rfl) : DM cl X m (.Call (.Name x p) (e :: es) kws pos) (mFK F r r2 dl) := by
  obtain ⟨f, fd, g, FO, hm, hk, hb⟩ := C
  refine ⟨(pe_callN FO hr hg hm hk hb pass0 ha.pa hkw.pk hall hks hdb he hpl).imp fun σ H Q ⟨F, H0, G, ρ, w, α, d, w', s, ed, q⟩ => ?_⟩
  obtain ⟨⟨da, w1⟩, e1, ed⟩ := bind_some ed
  obtain ⟨⟨db, w2⟩, e2, ed⟩ := bind_some ed
  obtain ⟨d', e3, e4⟩ := map_some ed
  cases e4
  refine ⟨F, H0, G, ρ, w, α, da, w1, s, e1, fun G1 H1 α1 vs n1 s1 ra => ⟨F, H0, G1, ρ, w1, α1, db, w2, s1, e2, fun G2 H2 α2 zs n2 s2 rb => ?_⟩⟩
  obtain ⟨ra1, ra2⟩ := ra.vals h1
  obtain ⟨rb1, rb2⟩ := rb.vals h2
  have rA := rms_of (H0 := H2) (Hs := H2) (G := G2) (H := H2) a1 (by rw [ra2, hl1]) (ra1.mono n2.g)
  have rB := rms_of (H0 := H2) (Hs := H2) (G := G2) (H := H2) a2 (by rw [rb2, hl2]) rb1
  have rr := rA.app (rB.app (hd H2 H2 G2 H2))
  refine ⟨by rw [ra.len.2, hn], by rw [rb.len.2, hk2], rr.len.2, G2, _, d, s2.gh, rr, e3, fun G3 H3 v gx3 r3 => ?_⟩
  exact q G3 H3 α2 v ((n1.trans n2).trans (.gx gx3)) (s2.gx' gx3) ((RN.of hrm s2.ww r3).start hrm fun p hp => (n1.trans n2).dom' s2.ww s2.gh hp)
/-- C(e, k = v, ..): a new instance, then __init__ -/
def mMake (c : Str) (Fn : MF) (dd : List WV) (r r2 : MA) : MR := fun ρ w => (r ρ w).bind fun a => (r2 ρ a.2).bind fun b => (Fn (.r b.2.length :: (a.1 ++ (b.1 ++ dd))) (b.2 ++ [.ins c []])).bind fun y => match y.1 with
  | .d .none => some (b.2.length, y.2)
  | _ => none
def MakeW (P : Program) (w : World) (K : PySem.W.Frag) (mg : Str → Option Value) (base : Heap) (cl : Str → Addr) (c x : Str) (ps : List Str) (k : Nat) (ms : List AK) (F : MF) (n : Nat) (ks : List Str) (dv : List V) : Prop :=
  ∃ (f : Addr) (fd : FuncData) (g : List Value → List Value → List Value), FnOk P w K mg base CX0 k f fd ps (spW K cl (.md .val) (.q :: ms) F) ∧ Mk K (cl c) f ∧ mg x = some (.ref (cl c)) ∧ KBn K fd ps (n + 1) ks g (fun vs zs => vs ++ (zs ++ dv))
theorem r_make (C : MakeW X.prog X.w X.K X.mg X.base cl c x ps k (ms1 ++ (ms2 ++ ms3)) Fn n ks dv) (hr : Room (k + 1) X.A) (ha : DAM cl X ms1 (e :: es) r) (hkw : DKM cl X ms2 kws r2) (hd : ∀ (n : Nat) (α : Pl) (G B : Hp), RWs X.K n α G B ms3 dd dv) (hn : ms1.length = n := by rfl) (hk2 : ms2.length = ks.length := by rfl)
    (hg : Gl X x := by rfl) (hall : (backToKw pos (keywordEach kws X.env)).all (·.1.isSome) = true := by rfl) (hks : (backToKw pos (keywordEach kws X.env)).filterMap (·.1) = ks := by rfl)
    (hdb : (x == ("__debug__" : Str)) = false := by decide) (he : starEach (e :: es) X.env = (false, eval e X.env) :: starEach es X.env := by rfl)
    (hpl : ((backTo pos (starEach (e :: es) X.env)).any (·.1) || (backToKw pos (keywordEach kws X.env)).any (·.1.isNone)) = false := by rfl) : DR cl X (.Call (.Name x p) (e :: es) kws pos) (mMake c Fn dd r r2) := by
  obtain ⟨f, fd, g, FO, mk, hm, hb⟩ := C
  refine ⟨(pe_makeK mk FO hr hg hm hb pass0 ha.pa hkw.pk hall hks hdb he hpl).imp fun σ H Q ⟨F, H0, G, ρ, w, α, i, w', s, ed, q⟩ => ?_⟩
  obtain ⟨⟨da, w1⟩, e1, ed⟩ := bind_some ed
  obtain ⟨⟨db, w2⟩, e2, ed⟩ := bind_some ed
  obtain ⟨⟨y, w3⟩, e3, ed⟩ := bind_some ed
  split at ed
  · rename_i hy
    cases ed
    have hy : y = .d .none := hy
    subst hy
    refine ⟨F, H0, G, ρ, w, α, da, w1, s, e1, fun G1 H1 α1 vs n1 s1 ra => ⟨F, H0, G1, ρ, w1, α1, db, w2, s1, e2, fun G2 H2 α2 zs n2 s2 rb => ⟨ra.len.2.trans hn, rb.len.2.trans hk2, fun x dx nx ndx ne => ?_⟩⟩⟩
    have ax : (α2.put w2.length x dx).a w2.length = x := if_pos rfl
    have xx : (α2.put w2.length x dx).x w2.length = dx := if_pos rfl
    have hx1 : upd (upd H2 dx (.own x)) x (.ins (cl c) dx []) x = some (.ins (cl c) dx []) := upd_same
    have hx2 : upd (upd H2 dx (.own x)) x (.ins (cl c) dx []) dx = some (.own x) := by rw [upd_ne ne, upd_same]
    have z := s2.make (p := x) (x := dx) (o := .ins c []) (H' := upd (upd H2 dx (.own x)) x (.ins (cl c) dx [])) nx (fun _ => ndx) (fun q h1 h2 => by
      rw [upd_ne h1, upd_ne fun z => h2 ⟨rfl, z⟩]) ⟨[], by rw [ax, xx]; exact hx1, by rw [ax, xx]; exact hx2, rfl, .nil⟩
    have hlen : (w2 ++ [WO.ins c []]).length = w2.length + 1 := by simp
    have n12 := n2.trans z.2
    show spW X.K cl (.md .val) (.q :: (ms1 ++ (ms2 ++ ms3))) Fn ((V.ref x :: vs) ++ (zs ++ dv)) _ _ E0
    have rself : RepV X.K G2 (α2.put w2.length x dx) (w2 ++ [WO.ins c []]).length (.r w2.length) (V.ref x) := by
      have : RepV X.K G2 (α2.put w2.length x dx) (w2 ++ [WO.ins c []]).length (.r w2.length) (V.ref ((α2.put w2.length x dx).a w2.length)) := .r (by rw [hlen]; omega)
      rwa [ax] at this
    have rargs := RWs.q rself ((ra.mono n12.g n12.h n12.n n12.al).app ((rb.mono z.2.g z.2.h z.2.n z.2.al).app (hd _ _ _ _)))
    refine ⟨rargs.len.2, G2, _, α2.put w2.length x dx, _, _, _, z.1.ww', rargs, e3, fun G3 H3 α3 v b r3 => ?_⟩
    have r3 : Rep X.K G3 .none v := r3.1
    cases r3
    refine ⟨rfl, ?_⟩
    have hn3 := (b.al w2.length (by rw [hlen]; omega)).1
    rw [ax] at hn3
    have := q G3 H3 α3 ((n1.trans n12).trans b.nx) (z.1.back b) (Nat.lt_of_lt_of_le (show w2.length < (w2 ++ [WO.ins c []]).length by rw [hlen]; omega) b.n)
    rw [hn3] at this
    exact this
  · cases ed
end
end DV

namespace DV
open PySem L2 PySem.Spec PyProof.Rows
/-! ### list(o), o's __iter__ hands out an iterator over a list -/
section
variable {prog : Program} {w : World} {A : Around} {E : Value → Shared → Prop} {s : Shared} {it l : Addr} {i : Nat} {items : Array Value}
theorem it_is (ho : s.heap.get? it = some (GNX.itObj l i)) : s.heap.IsListIter it l i := ⟨_, ho, rfl, rfl⟩
theorem next_itemT {x : Value} {Q : Option Value → Shared → Prop} (ho : s.heap.get? it = some (GNX.itObj l i)) (hl : s.heap.IsList l items) (hx : items[i]? = some x)
    (hQ : ∀ h', h'.get? it = some (GNX.itObj l (i + 1)) → Heap.SameBut it s.heap h' → Q (some x) { s with heap := h' }) : wpAny (model prog w) A (pyNext (.ref it)) Q E s := by
  unfold pyNext
  refine wpAny_bind (wpAny_attempt (wpAny_callSpecial?_slot (name := Str.ofString "__next__") (it_is ho).typeIs slot_listiter_next
    (wpAny_call_entry slot_listiter_next (it_is ho).typeIs entry_listiter_next ?_ (args_listiter_next _))))
  refine wpAny_mono (GNX.next_item (Q := fun v s' => v = x ∧ ∃ h', s' = { s with heap := h' } ∧ h'.get? it = some (GNX.itObj l (i + 1)) ∧ Heap.SameBut it s.heap h') ho hl hx fun h' e1 e2 => ⟨rfl, h', rfl, e1, e2⟩) (fun fin s' hf => ?_) fun _ _ z => z
  obtain ⟨v, rfl, rfl, h', rfl, e1, e2⟩ := hf
  exact ⟨_, rfl, wpAny_pure (hQ h' e1 e2)⟩
theorem next_endT {Q : Option Value → Shared → Prop} (hh : A.handled = none) (ho : s.heap.get? it = some (GNX.itObj l i)) (hl : s.heap.IsList l items) (hx : items[i]? = none)
    (hQ : ∀ h1 h', h1.get? it = some (GNX.itEnd i) → Heap.SameBut it s.heap h1 → (∀ b o, h1.get? b = some o → h'.get? b = some o) → Q none { s with heap := h' }) : wpAny (model prog w) A (pyNext (.ref it)) Q E s := by
  unfold pyNext
  refine wpAny_bind (wpAny_attempt (wpAny_callSpecial?_slot (name := Str.ofString "__next__") (it_is ho).typeIs slot_listiter_next
    (wpAny_call_entry slot_listiter_next (it_is ho).typeIs entry_listiter_next ?_ (args_listiter_next _))))
  refine wpAny_mono (GNX.next_end (Q := fun _ _ => False) (E := fun e s' => ∃ h1 h' a, e = .ref a ∧ s' = { s with heap := h' } ∧ h1.get? it = some (GNX.itEnd i) ∧ Heap.SameBut it s.heap h1 ∧ (∀ b o, h1.get? b = some o → h'.get? b = some o) ∧ ∃ vs, h'.get? a = some { cls := .type "StopIteration", data := .fields vs }) hh ho hl hx fun h1 h' e vs e1 e2 e3 e4 e5 e6 => ⟨h1, h', e, rfl, rfl, e1, e2, e3, vs, e5⟩) (fun fin s' hf => ?_) fun e s' he => ?_
  · obtain ⟨_, _, hf⟩ := hf
    exact hf.elim
  · obtain ⟨h1, h', a, rfl, rfl, e1, e2, e3, vs, e5⟩ := he
    refine wpAny_bind (wpAny_isInstance (T := "StopIteration") (b := true) ⟨_, e5, rfl⟩ isSubtype_stop ?_)
    exact wpAny_pure (hQ h1 h' e1 e2 e3)
end
section
variable {X : Cx} {pins : List (Addr × Obj)} {σ : L2.St} {s s' : Shared} {A1 : Around} {q it l : Addr} {zs : List V} {HB : Hp} {n : Nat}
theorem it_loop {Rs : Result → Shared → Prop} (sb : Sub X n A1.in1) (hl0 : SqL X.K HB l zs) (hit0 : HB it = none) (hq0 : HB q = none) (hne : q ≠ it) (hz : zs.length ≤ sizeLine)
    (hdone : ∀ H s, Inv X pins σ H s → Ex HB H → H q = some (.lst zs) → Rs (.ok (.ret .none)) s) :
    ∀ (k i : Nat) (H : Hp) (s : Shared), k + i = zs.length → Inv X pins σ H s → Ex HB H → H it = some (ItO l it i) → H q = some (.lst (zs.take i)) → codeAny (model X.prog X.w) A1 (.builtin "list.extend.loop" ⟨[.ref q, .ref it, .none], []⟩) Rs s
  | 0, i, H, s, hk, I, ex, hi, hq => by
    refine codeAny_builtin PySem.F.entry_extend_loop ?_
    rw [Around.under_plainId PySem.F.plain_extend_loop _]
    show wpAny _ A1.in1 (pyNext (.ref it) >>= _) _ _ s
    obtain ⟨its, rv, pl, _⟩ := I.list (ex.sql hl0)
    have mu : Mut (H it) := by rw [hi]; exact True.intro
    have hn : zs[i]? = none := List.getElem?_eq_none (by omega)
    refine wpAny_bind (next_endT sb.room.hd (itO_get I hi) pl.isList (by rw [List.getElem?_toArray]; exact rv.none_of hn) fun h1 h' e1 e2 e3 => ?_)
    have I2 : Inv X pins σ (upd H it (ItE it i)) { s with heap := h1 } := I.write (x := it) (e := it) (t' := s.toks) mu (.inl rfl) (fun b o nb z => (e2.2 b nb).trans z) ⟨_, e1⟩ (itE_ok e1)
    have I3 : Inv X pins σ (upd H it (ItE it i)) { s with heap := h' } := Inv.turnedL (s := { s with heap := h1 }) (t' := s.toks) (ch := []) I2 (fun b o _ z => e3 b o z) (fun b hb => absurd hb (by simp))
    refine wpAny_pure (hdone _ _ I3 (ex.mut hit0) ?_)
    rw [upd_ne hne, hq, List.take_of_length_le (by omega)]
  | k + 1, i, H, s, hk, I, ex, hi, hq => by
    refine codeAny_builtin PySem.F.entry_extend_loop ?_
    rw [Around.under_plainId PySem.F.plain_extend_loop _]
    show wpAny _ A1.in1 (pyNext (.ref it) >>= _) _ _ s
    obtain ⟨its, rv, pl, _⟩ := I.list (ex.sql hl0)
    have mu : Mut (H it) := by rw [hi]; exact True.intro
    have hlt : i < zs.length := by omega
    have hv : zs[i]? = some zs[i] := List.getElem?_eq_getElem hlt
    obtain ⟨u, hu, ru⟩ := rv.get hv
    refine wpAny_bind (next_itemT (itO_get I hi) pl.isList (by rw [List.getElem?_toArray]; exact hu) fun h' e1 e2 => ?_)
    have I2 : Inv X pins σ (upd H it (ItO l it (i + 1))) { s with heap := h' } := I.write (x := it) (e := it) (t' := s.toks) mu (.inl rfl) (fun b o nb z => (e2.2 b nb).trans z) ⟨_, e1⟩ (itO_ok e1)
    have hq' : upd H it (ItO l it (i + 1)) q = some (.lst (zs.take i)) := by rw [upd_ne hne]; exact hq
    show wpAny _ A1.in1 (updateSeq q (·.push u) >>= _) _ _ _
    obtain ⟨z, its2, k2, r2, hl2, e⟩ := I2.lstM hq'
    have hlen : its2.length = i := by rw [← hl2, List.length_take]; omega
    refine wpAny_bind (wpAny_updateSeq e rfl (wpAny_pure ⟨plainId_quiet PySem.F.plain_extend_loop _, ?_⟩) (by rw [List.size_toArray]; omega) (by show (its2.toArray.push u).size ≤ sizeLine + 1; rw [Array.size_push, List.size_toArray]; omega))
    refine it_loop sb hl0 hit0 hq0 hne hz hdone k (i + 1) _ _ (by omega) (I2.lset (its' := its2 ++ [u]) (t' := s.toks) hq' e (by simp) (r2.append (.cons ru .nil)) (by rw [List.length_append, List.length_singleton, List.length_take]; omega)) ((ex.mut hit0).mut hq0) ?_ ?_
    · rw [upd_ne (Ne.symm hne), upd_same]
    · rw [upd_same, List.take_add_one, hv]; rfl
end
/-- a class whose __iter__ is a def, without __len__ and __length_hint__ -/
structure ItL (K : PySem.W.Frag) (C fi : Addr) : Prop where
  it : PySem.W.findIn K (.ref C) "__iter__" = some (some (.ref fi))
  itF : PySem.W.isFn K (.ref fi) = true
  nolen : PySem.W.findIn K (.ref C) "__len__" = some none
  nohint : PySem.W.findIn K (.ref C) "__length_hint__" = some none
theorem itl_hint {M : Model} {A : Around} {E : Value → Shared → Prop} {Q : Bool → Shared → Prop} {K : PySem.W.Frag} {s : Shared} {C fi a : Addr} {ox : Obj} {od : Option Obj} (hc : ItL K C fi) (hK : K.In s.heap) (J : PySem.W.InstAt s.heap a ox C od) (h : Q true s) :
    wpAny M A (Builtin.List.listLengthHint (.ref a)) Q E s := by
  unfold Builtin.List.listLengthHint
  refine wpAny_bind (wpAny_bind (J.type.here ((PySem.W.looks_findIn hK hc.nolen).here ?_)))
  refine PySem.W.KFB.if_not rfl ?_
  refine PySem.W.KFB.if_not rfl ?_
  refine wpAny_bind (wpAny_bind (J.type.here ((PySem.W.looks_findIn hK hc.nohint).here ?_)))
  exact wpAny_pure h
section
variable {X : Cx} {pins : List (Addr × Obj)} {σ : L2.St} {H : Hp} {s : Shared} {A1 : Around} {C fi a q l : Addr} {zs : List V} {fdI : FuncData} {psI : List Str} {spI : Sp} {n : Nat}
/-- what __iter__ promises at a -/
def HandsIt (spI : Sp) (a l : Addr) (H : Hp) : Prop := spI [.ref a] H (fun v H' => ∃ it, v = .ref it ∧ H it = none ∧ H' = upd H it (ItO l it 0)) E0
theorem itl_extend {Rs : Result → Shared → Prop} {dx : Addr} {fs : List (Str × V)} {HB : Hp} (sb : Sub X n A1.in1) (hc : ItL X.K C fi)
    (FI : FnOk X.prog X.w X.K X.mg X.base CX0 n fi fdI psI spI) (bI : Binds X.K fdI psI []) (hz : zs.length ≤ sizeLine)
    (hdone : ∀ H s, Inv X pins σ H s → Ex HB H → H q = some (.lst zs) → Rs (.ok (.ret .none)) s)
    (I : Inv X pins σ H s) (ha : H a = some (.ins C dx fs)) (hq : H q = some (.lst [])) (ex : Ex HB H) (hq0 : HB q = none) (hl0 : SqL X.K HB l zs) (hsp : HandsIt spI a l H) :
    wpAny (model X.prog X.w) A1.in1 (Builtin.List.listExtendWith (.ref q) (.ref a) .none)
      (fun fin s' => match fin with | .done f => Rs (.ok f) s' | .again c' => c'.quiet = true ∧ codeAny (model X.prog X.w) A1 c' Rs s') (fun e s' => Rs (.error e) s') s := by
  have hne : q ≠ a := fun z => by subst z; rw [hq] at ha; cases ha
  obtain ⟨mA, J, _⟩ := ins_get I.hok ha
  obtain ⟨od, J, _⟩ := J.look
  obtain ⟨m0, hF⟩ := I.fr
  unfold Builtin.List.listExtendWith
  refine wpAny_bind (J.type.here ?_)
  have h1 : Builtin.List.listSameRef (.ref q) (.ref a) = false := by simp [Builtin.List.listSameRef, hne]
  have h2 : (Value.ref C == Value.type "list") = false := rfl
  have h3 : (Value.ref C == Value.type "tuple") = false := rfl
  simp only [h1, h2, h3, Bool.or_false, Bool.false_eq_true, if_false]
  refine wpAny_bind (PySem.W.owit_iter hF I.ok.mod.kin J hc.it hc.itF ?_)
  have e0 : Env0 X.prog X.w X.K X.mg X.base A1.in1 X.stack s H := by
    have e := I.env0
    exact ⟨by rw [sb.fr]; exact e.frames, e.mod, e.bs, e.bsz, e.funs, e.frf, e.hok, e.bare⟩
  have hl := FI.len _ _ _ _ hsp
  have r2 : Vals [V.ref a] [Value.ref a] := .cons rfl .nil
  refine wpAny_call (codeAny_mono (FI.run A1.in1 X.stack s H ⟨[.ref a], []⟩ [.ref a] [.ref a] _ E0 sb.room e0 (by
    have := bI s [.ref a] I.kIn (by simpa using hl)
    simpa using this) r2 hsp) fun r s' hq' => ?_)
  cases r with
  | error e => exact False.elim hq'
  | ok fl =>
    cases fl with
    | next => exact False.elim hq'
    | brk => exact False.elim hq'
    | cont => exact False.elim hq'
    | ret u =>
      obtain ⟨v, H', I', rv, it, ev, hit0, eH⟩ := I.after hq'
      subst ev
      subst eH
      cases rv
      have hiO : upd H it (ItO l it 0) it = some (ItO l it 0) := upd_same
      have hai : a ≠ it := fun z => by subst z; rw [hit0] at ha; cases ha
      have hqi : q ≠ it := fun z => by subst z; rw [hit0] at hq; cases hq
      have ha' : upd H it (ItO l it 0) a = some (.ins C dx fs) := by rw [upd_ne hai]; exact ha
      have hq2 : upd H it (ItO l it 0) q = some (.lst []) := by rw [upd_ne hqi]; exact hq
      have hitB : HB it = none := by
        cases z : HB it with
        | none => rfl
        | some o =>
          have := ex it o z
          rw [hit0] at this; cases this
      have ex2 : Ex HB (upd H it (ItO l it 0)) := ex.mut hitB
      obtain ⟨mA', J', _⟩ := ins_get I'.hok ha'
      obtain ⟨od', J', _⟩ := J'.look
      show PySem.W.OwitIt _ _ _ _ (.ref it) s'
      unfold PySem.W.OwitIt
      refine wpAny_specialOf (it_is (itO_get I' hiO)).typeIs slot_listiter_next.lookup ?_
      show wpAny _ _ _ _ _ s'
      refine wpAny_bind (wpAny_holding (itl_hint hc I'.kIn J' ?_))
      obtain ⟨z, its, k, r3, hl3, e3⟩ := I'.lstM hq2
      cases r3
      refine wpAny_ite_split (fun _ => ?_) (fun _ => wpAny_pure ⟨plainId_quiet PySem.F.plain_extend_loop _, it_loop sb hl0 hitB hq0 hqi hz hdone zs.length 0 _ s' rfl I' ex2 hiO hq2⟩)
      refine wpAny_bind (wpAny_rule ?_)
      refine wpAny_bind ?_
      show wpAny _ _ (updateSeq q (·.push .none) >>= fun _ => updateSeq q (·.pop)) _ _ _
      refine wpAny_bind (wpAny_updateSeq e3 rfl ?_)
      have I2 := I'.lset (f := (·.push Value.none)) (its' := [Value.none]) (ys := [.non]) (t' := s'.toks) hq2 e3 (by simp) (.cons rfl .nil) (by rw [List.length_singleton, sizeLine_eq]; decide)
      obtain ⟨z4, its4, k4, r4, hl4, e4⟩ := I2.lstM upd_same
      obtain ⟨u4, rfl, ru4⟩ := r4.one
      refine wpAny_updateSeq e4 rfl ?_ (by show 1 ≤ sizeLine; rw [sizeLine_eq]; decide) (by show 0 ≤ sizeLine + 1; exact Nat.zero_le _)
      refine wpAny_pure ⟨plainId_quiet PySem.F.plain_extend_loop _, it_loop sb hl0 hitB hq0 hqi hz hdone zs.length 0 (upd H it (ItO l it 0)) _ rfl ?_ ex2 hiO hq2⟩
      have I3 := I2.lset (f := (·.pop)) (its := [u4]) (its' := []) (ys := []) (t' := s'.toks) upd_same e4 (by rfl) .nil (Nat.zero_le _)
      rw [upd_upd] at I3
      have hH : upd (upd H it (ItO l it 0)) q (.lst []) = upd H it (ItO l it 0) := by
        funext b
        by_cases hb : b = q
        · rw [hb, upd_same, hq2]
        · rw [upd_ne hb]
      rw [hH] at I3
      exact I3
/-- list(o) -/
def rListI (K : PySem.W.Frag) (C : Addr) (spI : Sp) : List V → Hp → VK → Prop := fun xs H Q => ∃ a dx fs l zs, xs = [.ref a] ∧ H a = some (.ins C dx fs) ∧ SqL K H l zs ∧
  (∀ q, H q = none → HandsIt spI a l (upd H q (.lst []))) ∧ ∀ q H', H q = none → Ex H H' → H' q = some (.lst zs) → Q (.ref q) H'
theorem call_listI (hc : ItL X.K C fi) (FI : FnOk X.prog X.w X.K X.mg X.base CX0 n fi fdI psI spI) (bI : Binds X.K fdI psI []) (hr : Room (n + 2) X.A) : CallR X (.type "list") (rListI X.K C spI) := by
  intro pins s σ H xs us Q I rv h
  obtain ⟨a, dx, fs, l, zs, rfl, ha, hl0, hI, hQ⟩ := h
  have hz : zs.length ≤ sizeLine := by
    obtain ⟨its0, rv0, _, hz0⟩ := I.list hl0
    exact hz0
  obtain ⟨u, rfl, ru⟩ := rv.one
  cases ru
  have sb : Sub X n X.A.in1.in1 := (Sub.in1 (Sub.in1 (⟨hr, rfl⟩ : Sub X (n + 2) X.A)))
  refine callType_codes (Q₁ := fun obj s₁ => obj = .ref s.heap.objs.size ∧ s₁ = { s with heap := s.heap.push { cls := .type "list", data := .seq #[] } }) PySem.F.called_list (PySem.F.typeCall_list_1 _) PySem.F.entry_list_init
    (code_list_new _ ⟨rfl, rfl⟩) fun obj s₁ h₁ => ?_
  obtain ⟨rfl, rfl⟩ := h₁
  have hS : (s.heap.push { cls := .type "list", data := .seq #[] }).get? s.heap.objs.size = some { cls := .type "list", data := .seq #[] } := Heap.get?_push_size _ rfl
  refine ⟨⟨_, hS, rfl⟩, PySem.F.args_list_init_2 _ _, ?_⟩
  have fr : H s.heap.objs.size = none := I.hok.fresh (Nat.le_refl _)
  have I1 : Inv X pins σ (upd H s.heap.objs.size (.lst [])) { s with heap := s.heap.push { cls := .type "list", data := .seq #[] } } := I.lnew (its := []) (t' := s.toks) .nil (Nat.zero_le _)
  show wpAny _ _ (do let old ← Builtin.List.listItems (.ref s.heap.objs.size); Builtin.List.listUpdate (.ref s.heap.objs.size) (fun _ => #[]); letGo old.toList.reverse; Builtin.List.listExtendWith (.ref s.heap.objs.size) (.ref a) .none) _ _ _
  refine wpAny_bind ?_
  unfold Builtin.List.listItems
  refine wpAny_bind (wpAny_seqItems hS rfl (wpAny_pure ?_))
  show wpAny _ _ (updateSeq s.heap.objs.size (fun _ => #[]) >>= fun _ => letGo (#[] : Array Value).toList.reverse >>= fun _ => Builtin.List.listExtendWith (.ref s.heap.objs.size) (.ref a) .none) _ _ _
  refine wpAny_bind (wpAny_updateSeq hS rfl ?_)
  have I2 := I1.lset (f := fun _ => #[]) (its := []) (its' := []) (ys := []) (t' := s.toks) upd_same hS rfl .nil (Nat.zero_le _)
  rw [upd_upd] at I2
  refine wpAny_bind (wpAny_letGo ?_)
  have ha2 : upd H s.heap.objs.size (.lst []) a = some (.ins C dx fs) := by rw [upd_ne (fun z => by rw [z, fr] at ha; cases ha)]; exact ha
  exact itl_extend (A1 := X.A.in1) (Rs := wants (fun r s₂ => r = .none ∧ EP X pins σ Q (.ref s.heap.objs.size) s₂) X.xe) (HB := H) sb hc FI bI hz
    (fun H' s' I' ex hq => ⟨rfl, .ref s.heap.objs.size, H', I', rfl, hQ _ H' fr ex hq⟩) I2 ha2 upd_same (Ex.new fr) fr hl0 (hI _ fr)
end
/-- what an __iter__ that hands out iter(self.f) promises -/
def spIt (K : PySem.W.Frag) (f : Str) : Sp := fun vs H Q _ => ∃ a C dx fs l zs, vs = [V.ref a] ∧ H a = some (.ins C dx fs) ∧ Cls K C ∧ NoAttr K C f ∧ fs.lookup f = some (.ref l) ∧ SqL K H l zs ∧ ∀ it, H it = none → Q (.ref it) (upd H it (ItO l it 0))
theorem fn_iter {P : Program} {w : World} {K : PySem.W.Frag} {mg : Str → Option Value} {base : Heap} {x qual f : Str} {st : Stmt} {fi : Addr} {fd : FuncData} {k : Nat} {p1 p2 p3 p4 p5 : Pos} (F : Fun K x qual st fi fd) (S : FnScope ["self"] ["self"] (defScope st)) (hz : mg "iter" = none)
    (hbody : defBody st = [.Return (some (.Call (.Name "iter" p1) [.Attribute (.Name "self" p2) f p3] [] p4)) p5])
    (hg : ∀ (cdv : Value) (A : Around) (outer : List Env) (s : Shared) (H : Hp) (E : XK), Gl (cxOf CX0 P w K mg base ["self"] qual (defScope st) fi cdv A outer s H E).nox "iter") : FnOk P w K mg base CX0 (k + 1) fi fd ["self"] (spIt K f) := by
  refine F.ok S (fun vs H Q E h => ?_) fun cdv A outer s H vs Q E hr h => ?_
  · obtain ⟨a, C, dx, fs, l, zs, rfl, _⟩ := h
    rfl
  · obtain ⟨a, C, dx, fs, l, zs, rfl, h1, h2, h3, h4, h5, q⟩ := h
    rw [hbody]
    refine ⟨_, pss_one (ps_ret (pe_callB call_iterL (hg cdv A outer s H E) hz PyProof.Rows.boot_iter (pa_cons (pe_fld (pe_var (i := 0) (x := "self") rfl ((S.par "self" (List.Mem.head _)).elim (fun z => .inl z) (fun z => .inr (.inl z)))) rfl) pa_nil))), ?_⟩
    exact ⟨.ref a, rfl, a, C, dx, fs, .ref l, rfl, h1, h2, h3, h4, l, zs, rfl, h5, fun it ni => q it ni⟩
def IterW (P : Program) (w : World) (K : PySem.W.Frag) (mg : Str → Option Value) (base : Heap) (cl : Str → Addr) (c f : Str) (n : Nat) : Prop :=
  ∃ (fi : Addr) (fdI : FuncData), FnOk P w K mg base CX0 n fi fdI ["self"] (spIt K f) ∧ Binds K fdI ["self"] [] ∧ ItL K (cl c) fi ∧ Cls K (cl c) ∧ NoAttr K (cl c) f
def mListI (c f : Str) (fr : MR) : ME := fun ρ w => (fr ρ w).bind fun x => match x.2[x.1]? with
  | some (.ins c' fs) => if c' = c then (fs.lookup f).bind fun v => match v with
    | .d (.list ds) => some (.list ds, x.2)
    | _ => none
    else none
  | _ => none
theorem m_listI {X : Cx} {cl : Str → Addr} {c f : Str} {n : Nat} {e : Expr} {fr : MR} {p pos : Pos} (C : IterW X.prog X.w X.K X.mg X.base cl c f n) (hr : Room (n + 2) X.A) (he : DR cl X e fr) (hm : X.mg "list" = none) (hg : Gl X "list" := by rfl)
    (hst : starEach (e :: []) X.env = (false, eval e X.env) :: starEach [] X.env := by rfl) (hpl : (backTo pos (starEach [] X.env)).any (·.1) = false := by rfl) : DM cl X .new (.Call (.Name "list" p) [e] [] pos) (mListI c f fr) := by
  obtain ⟨fi, fdI, FI, bI, hc, hcl, hn⟩ := C
  refine ⟨(pe_callTy (call_listI hc FI bI hr) hg hm PyProof.Rows.boot_list (pa_cons he.pe pa_nil hst) (by decide) (by decide) hst hpl).imp fun σ H Q ⟨F, H0, G, ρ, w, α, d, w', s, e, q⟩ => ?_⟩
  obtain ⟨⟨h, w1⟩, e1, e⟩ := bind_some e
  refine ⟨F, H0, G, ρ, w, α, h, w1, s, e1, fun G1 H1 α1 n1 s1 hh => ?_⟩
  split at e
  · rename_i c' fs e5
    obtain ⟨hcc, ee⟩ := ite_some e
    subst hcc
    obtain ⟨v, e6, e7⟩ := bind_some ee
    split at e7
    · rename_i ds
      cases e7
      obtain ⟨vs, h1, h2, h3, h4⟩ := s1.ww.ins e5
      rcases wLook_ok (f := f) h3 h4 with ⟨z, _⟩ | ⟨x', v', z1, z2, z3⟩
      · rw [z] at e6; cases e6
      · rw [z1] at e6; cases e6
        cases z3 with
        | d r =>
          obtain ⟨l, us, rfl, st, ra⟩ := (show RepB X.K G1 H1 _ _ from .val r).seq
          have hl0 : SqL X.K H1 l us := .inl (st _ s1.gh (Ex.refl _))
          refine ⟨α1.a h, _, vs, l, us, rfl, h1, hl0, fun b hq => ?_, fun b H' hq ex hv => ?_⟩
          · have exq : Ex H1 (upd H1 b (.lst [])) := Ex.new hq
            exact ⟨α1.a h, _, _, vs, l, us, rfl, exq _ _ h1, hcl, hn, z2, exq.sql hl0, fun it ni => ⟨it, rfl, ni, rfl⟩⟩
          · have gx : Gx G1 H1 G1 H' := ⟨Ex.refl _, ex, s1.gh.trans ex, fun p hp => .inl hp⟩
            refine q G1 H' α1 _ (n1.trans (.gx gx)) (s1.gx' gx) ⟨⟨_, rfl, n1.dom' s1.ww s1.gh hq, s1.gh.back hq, .lst hv ra⟩, fun _ p e z => ?_⟩
            cases e
            obtain ⟨u, hu, _⟩ := s1.ww.there z
            rw [hq] at hu; cases hu
    · cases e7
  · cases e
end DV

namespace DV
open PySem L2 PySem.Spec PyProof.Rows
/-! ### and, or, not as values, over the world -/
def mAndV (f g : ME) : ME := fun ρ w => (f ρ w).bind fun x => (truth x.1).bind fun k => if k = true then g ρ x.2 else some x
def mOrV (f g : ME) : ME := fun ρ w => (f ρ w).bind fun x => (truth x.1).bind fun k => if k = true then some x else g ρ x.2
def mNotV (f : ME) : ME := fun ρ w => (f ρ w).bind fun x => (truth x.1).map fun k => (.bool !k, x.2)
section
variable {cl : Str → Addr} {X : Cx} {m : Md} {a b e : Expr} {rest : List Expr} {f g : ME} {pos : Pos}
theorem m_one {op} (h : DM cl X m a f) : DM cl X m (.BoolOp op [a] pos) f := ⟨pe_one h.pe⟩
theorem m_and (ha : DM cl X .val a f) (hb : DM cl X .val (.BoolOp .And (b :: rest) pos) g) : DM cl X .val (.BoolOp .And (a :: b :: rest) pos) (mAndV f g) :=
  ⟨(pe_andT ha.pe hb.pe).imp fun σ H Q ⟨F, H0, G, ρ, w, α, d, w', s, e, q⟩ => by
    obtain ⟨⟨d1, w1⟩, e1, e⟩ := bind_some e
    obtain ⟨k1, e2, e⟩ := bind_some e
    refine ⟨F, H0, G, ρ, w, α, d1, w1, s, e1, fun G' H' α' v n s' r => ⟨k1, truth_ok s'.gh (.val r.1) e2, ?_⟩⟩
    cases k1 with
    | true => exact iteT ⟨F, H0, G', ρ, w1, α', d, w', s', e, fun G2 H2 α2 v n2 s2 r2 => q G2 H2 α2 v (n.trans n2) s2 (.val r2.1)⟩
    | false => cases e; exact iteF (q G' H' α' v n s' (.val r.1))⟩
theorem m_or (ha : DM cl X .val a f) (hb : DM cl X .val (.BoolOp .Or (b :: rest) pos) g) : DM cl X .val (.BoolOp .Or (a :: b :: rest) pos) (mOrV f g) :=
  ⟨(pe_orT ha.pe hb.pe).imp fun σ H Q ⟨F, H0, G, ρ, w, α, d, w', s, e, q⟩ => by
    obtain ⟨⟨d1, w1⟩, e1, e⟩ := bind_some e
    obtain ⟨k1, e2, e⟩ := bind_some e
    refine ⟨F, H0, G, ρ, w, α, d1, w1, s, e1, fun G' H' α' v n s' r => ⟨k1, truth_ok s'.gh (.val r.1) e2, ?_⟩⟩
    cases k1 with
    | false => exact iteF ⟨F, H0, G', ρ, w1, α', d, w', s', e, fun G2 H2 α2 v n2 s2 r2 => q G2 H2 α2 v (n.trans n2) s2 (.val r2.1)⟩
    | true => cases e; exact iteT (q G' H' α' v n s' (.val r.1))⟩
theorem m_not (ha : DM cl X .val a f) : DM cl X .val (.UnaryOp .Not a pos) (mNotV f) :=
  ⟨(pe_notT ha.pe).imp fun σ H Q ⟨F, H0, G, ρ, w, α, d, w', s, e, q⟩ => by
    obtain ⟨⟨d1, w1⟩, e1, e⟩ := bind_some e
    obtain ⟨k, e2, e3⟩ := map_some e
    cases e3
    exact ⟨F, H0, G, ρ, w, α, d1, w1, s, e1, fun G' H' α' v n s' r => ⟨k, truth_ok s'.gh (.val r.1) e2, q G' H' α' _ n s' (.val (.bl _))⟩⟩⟩
end
/-! ### lent operands -/
def tMB (K : PySem.W.Frag) (cl : Str → Addr) (f : ME) : L2.TE := fun σ H Q => ∃ F H0 G ρ w α d w', Nok K cl F H0 G ρ σ H w α ∧ f ρ w = some (d, w') ∧ ∀ G' H' α' v, Nx G H w α G' H' w' α' → Nok K cl F H0 G' ρ σ H' w' α' → RepB K G' (hideW H' (dom α' w')) d v → Q v H'
structure DMB (cl : Str → Addr) (X : Cx) (e : Expr) (f : ME) : Prop where
  pe : PE X e (tMB X.K cl f)
section
variable {cl : Str → Addr} {X : Cx} {m : Md} {a b e : Expr} {f g : ME} {pos p : Pos} {x : Str}
theorem mb_v (h : DM cl X .val e f) : DMB cl X e f := ⟨h.pe.imp fun σ H Q ⟨F, H0, G, ρ, w, α, d, w', s, e, q⟩ => ⟨F, H0, G, ρ, w, α, d, w', s, e, fun G' H' α' v n s' r => q G' H' α' v n s' (.val r.1)⟩⟩
theorem mb_var (i : Nat) (hN : X.N[i]? = some x := by rfl) (hv : Vis X.env.scope x := by first | exact Or.inl rfl | exact Or.inr (Or.inl rfl) | exact Or.inr (Or.inr rfl)) (hd : (x == ("__debug__" : Str)) = false := by decide)
    (hcd : (x == ("__classdict__" : Str)) = false := by decide) : DMB cl X (.Name x p) (mL (eB i)) :=
  ⟨(pe_var hN hv hd hcd).imp fun σ H Q ⟨F, H0, G, ρ, w, α, d, w', s, e, q⟩ => by
    obtain ⟨d', ed, e4⟩ := map_some e
    cases e4
    obtain ⟨v, e5, rb⟩ := bor_slot s ed
    exact ⟨v, e5, q G H α v .refl s rb⟩⟩
theorem op_twoB {r : R2} {F : PyData → PyData → Option PyData} (hF : OpF X.K m r F) (hm : MN m) {σ : L2.St} {H : Hp} {Q : VK} (q : tM X.K cl m (mOp F f g) σ H Q) : tOp r (tMB X.K cl f) (tMB X.K cl g) σ H Q := by
  obtain ⟨Fr, H0, G, ρ, w, α, d, w', s, e, q⟩ := q
  obtain ⟨⟨x, w1⟩, e1, e⟩ := bind_some e
  obtain ⟨⟨y, w2⟩, e2, e⟩ := bind_some e
  obtain ⟨d', hd, e3⟩ := map_some e
  cases e3
  refine ⟨Fr, H0, G, ρ, w, α, x, w1, s, e1, fun G1 H1 α1 v1 n1 s1 r1 => ⟨Fr, H0, G1, ρ, w1, α1, y, w2, s1, e2, fun G2 H2 α2 v2 n2 s2 r2 => ?_⟩⟩
  refine hF G2 H2 x y d v1 v2 Q s2.gh (RepB.mono n2.g (n2.h.trans hideW_le) r1) (RepB.mono (Ex.refl _) hideW_le r2) hd fun G3 H3 v gx r3 => ?_
  have n12 := n1.trans n2
  exact q G3 H3 α2 v (n12.trans (.gx gx)) (s2.gx' gx) ((RN.of hm s2.ww (r3 (fun _ => none))).start hm fun p hp => n12.dom' s2.ww s2.gh hp)
theorem m_opB {op : Operator} {r : R2} {F : PyData → PyData → Option PyData} (ho : OpR X (binaryOp op) r) (hF : OpF X.K m r F) (ha : DMB cl X a f) (hb : DMB cl X b g) (hm : MN m := by first | exact .inl rfl | exact .inr rfl) : DM cl X m (.BinOp a op b pos) (mOp F f g) :=
  ⟨(pe_op ho ha.pe hb.pe).imp fun _ _ _ q => op_twoB hF hm q⟩
theorem m_cmpB {op : CmpOp} {r : R2} {F : PyData → PyData → Option PyData} (ho : OpR X (compareOp op) r) (hF : OpF X.K .val r F) (ha : DMB cl X a f) (hb : DMB cl X b g) (hm : behindInMarks op b = false) : DM cl X .val (.Compare a [op] [b] pos) (mOp F f g) :=
  ⟨(pe_cmpR ho ha.pe hb.pe hm).imp fun _ _ _ q => op_twoB hF (.inl rfl) q⟩
theorem mt_cmpB {op : CmpOp} {r : R2} {F : PyData → PyData → Option PyData} (ho : OpR X (compareOp op) r) (hF : OpF X.K .val r F) (ha : DMB cl X a f) (hb : DMB cl X b g) (hm : behindInMarks op b = false) : DTM cl X (.Compare a [op] [b] pos) (mT (mOp F f g)) :=
  ⟨(pt_cmpR ho ha.pe hb.pe hm).imp (tTestM_of fun _ _ _ q => op_twoB hF (.inl rfl) q)⟩
theorem m_ixB (ha : DMB cl X a f) (hb : DMB cl X b g) (hs : PlainIx b := by intro _ _; rfl) : DM cl X .val (.Subscript a b pos) (mOp oIx f g) :=
  ⟨(pe_ix ix_seq ha.pe hb.pe hs).imp fun _ _ _ q => op_twoB opf_ix (.inl rfl) q⟩
end
end DV

namespace DV
open PySem L2
/-! ### reckoning, over the world -/
section
variable {ρ ρ' : Rho} {w w1 w2 w3 : Wd} {d : PyData} {k n h : Nat} {s : Slot} {f : SE} {fs : SS} {t : SB} {a b : ME} {q : MQ} {u v : MB} {r r2 : MA} {x : WV}
@[simp] theorem unD_nil : unD [] = [] := rfl
@[simp] theorem unD_d {l : List WV} : unD (.d d :: l) = d :: unD l := rfl
@[simp] theorem mL_r : mL f ρ w = (f ρ).map fun d => (d, w) := rfl
@[simp] theorem mLB_r : mLB t ρ w = (t ρ).map fun d => (d, w) := rfl
@[simp] theorem mOp_r {F : PyData → PyData → Option PyData} : mOp F a b ρ w = (a ρ w).bind fun x => (b ρ x.2).bind fun y => (F x.1 y.1).map fun d => (d, y.2) := rfl
@[simp] theorem mUn_r {F : PyData → Option PyData} : mUn F a ρ w = (a ρ w).bind fun x => (F x.1).map fun d => (d, x.2) := rfl
@[simp] theorem mT_r : mT a ρ w = (a ρ w).bind fun x => (asB x.1).map fun b => (b, x.2) := rfl
@[simp] theorem mV_r : mV a ρ w = (a ρ w).bind fun x => (truth x.1).map fun b => (b, x.2) := rfl
@[simp] theorem mNot_r : mNot u ρ w = (u ρ w).map fun x => (!x.1, x.2) := rfl
@[simp] theorem mAndB_r : mAndB u v ρ w = (u ρ w).bind fun x => if x.1 = true then v ρ x.2 else some (false, x.2) := rfl
@[simp] theorem mOrB_r : mOrB u v ρ w = (u ρ w).bind fun x => if x.1 = true then some (true, x.2) else v ρ x.2 := rfl
@[simp] theorem mIte_r : mIte u a b ρ w = (u ρ w).bind fun x => if x.1 = true then a ρ x.2 else b ρ x.2 := rfl
@[simp] theorem maNil_r : maNil ρ w = some ([], w) := rfl
@[simp] theorem maD_r : maD a r ρ w = (a ρ w).bind fun x => (r ρ x.2).map fun y => (.d x.1 :: y.1, y.2) := rfl
@[simp] theorem mF_r {F : List PyData → Option PyData} : mF F r ρ w = (r ρ w).bind fun x => (F (unD x.1)).map fun d => (d, x.2) := rfl
@[simp] theorem mFK_r {F : List PyData → Option PyData} {dd : List PyData} : mFK F r r2 dd ρ w = (r ρ w).bind fun a => (r2 ρ a.2).bind fun b => (F (unD a.1 ++ (unD b.1 ++ dd))).map fun d => (d, b.2) := rfl
@[simp] theorem mQ_r : mQ a ρ w = (a ρ w).map fun x => (.d x.1, x.2) := rfl
@[simp] theorem mQR_r {fr : MR} : mQR fr ρ w = (fr ρ w).map fun x => (.r x.1, x.2) := rfl
theorem mD_eq (e : q ρ w = some (.d d, w1)) : mD q ρ w = some (d, w1) := by unfold mD; rw [e]; rfl
@[simp] theorem mRv_0 : mR (mVar 0) (.st h :: ρ) w = some (h, w) := rfl
@[simp] theorem mRv_s : mR (mVar (k + 1)) (s :: ρ) w = mR (mVar k) ρ w := rfl
@[simp] theorem mAndV_r : mAndV a b ρ w = (a ρ w).bind fun x => (truth x.1).bind fun k => if k = true then b ρ x.2 else some x := rfl
@[simp] theorem mOrV_r : mOrV a b ρ w = (a ρ w).bind fun x => (truth x.1).bind fun k => if k = true then some x else b ρ x.2 := rfl
@[simp] theorem mNotV_r : mNotV a ρ w = (a ρ w).bind fun x => (truth x.1).map fun k => (.bool !k, x.2) := rfl
/-- statements -/
theorem mS_nx (e : fs ρ = some (.nx ρ')) : mS fs ρ w = some (.nx ρ', w) := by unfold mS; rw [e]
theorem mseq_nx {f g : MS} (e : f ρ w = some (.nx ρ', w1)) : mSeq f g ρ w = g ρ' w1 := by unfold mSeq; rw [e]; rfl
theorem mseq_s {g : MS} (e : fs ρ = some (.nx ρ')) : mSeq (mS fs) g ρ w = g ρ' w := mseq_nx (mS_nx e)
theorem mseq_rt {f g : MS} (e : f ρ w = some (.rt x, w1)) : mSeq f g ρ w = some (.rt x, w1) := by unfold mSeq; rw [e]; rfl
@[simp] theorem mNext_r : mNext ρ w = some (.nx ρ, w) := rfl
@[simp] theorem mIf_r {f g : MS} : mIf u f g ρ w = (u ρ w).bind fun x => if x.1 = true then f ρ x.2 else g ρ x.2 := rfl
@[simp] theorem mSet_r : mSet k a ρ w = (a ρ w).bind fun x => if k < ρ.length then some (.nx (ρ.set k (.val x.1)), x.2) else none := rfl
@[simp] theorem mOwn_r : mOwn k a ρ w = (a ρ w).bind fun x => if k < ρ.length then some (.nx (ρ.set k (.own x.1)), x.2) else none := rfl
@[simp] theorem mAny_r : mAny k q ρ w = (q ρ w).bind fun x => if k < ρ.length then some (.nx (ρ.set k (slotV x.1)), x.2) else none := rfl
@[simp] theorem mAsg_r {g : SG} : mAsg a g ρ w = (a ρ w).bind fun x => (g x.1 ρ).map fun ρ' => (.nx ρ', x.2) := rfl
@[simp] theorem mRet_r : mRet a ρ w = (a ρ w).map fun x => (.rt (.d x.1), x.2) := rfl
theorem mSet_eq (e : a ρ w = some (d, w1)) (hk : k < ρ.length) : mSet k a ρ w = some (.nx (ρ.set k (.val d)), w1) := by rw [mSet_r, e]; exact if_pos hk
theorem mOwn_eq (e : a ρ w = some (d, w1)) (hk : k < ρ.length) : mOwn k a ρ w = some (.nx (ρ.set k (.own d)), w1) := by rw [mOwn_r, e]; exact if_pos hk
theorem mIf_f {f g : MS} (e : u ρ w = some (false, w1)) : mIf u f g ρ w = g ρ w1 := by rw [mIf_r, e]; rfl
theorem mIf_t {f g : MS} (e : u ρ w = some (true, w1)) : mIf u f g ρ w = f ρ w1 := by rw [mIf_r, e]; rfl
theorem mFor_eq {fi : MI} {g : SG} {b : MS} {ds : List PyData} (e : fi ρ w = some (ds, w1)) : mFor fi g b ρ w = mForGo g b ds ρ w1 := by unfold mFor; rw [e]; rfl
theorem mArgsI_eq {F : List PyData → Option (List PyData)} {l : List WV} {ds : List PyData} (e : r ρ w = some (l, w1)) (e2 : F (unD l) = some ds) : mArgsI F r ρ w = some (ds, w1) := by unfold mArgsI; rw [e, Option.bind_some, e2]; rfl
theorem mSeqI_eq {l : List PyData} (e : a ρ w = some (d, w1)) (e2 : itemsOf d = some l) : mSeqI a ρ w = some (l, w1) := by unfold mSeqI; rw [e, Option.bind_some, e2]; rfl
theorem mForGo_one {g : SG} {b : MS} {ds : List PyData} {ρ1 : Rho} (e1 : g d ρ = some ρ1) (e2 : b ρ1 w = some (.nx ρ', w1)) : mForGo g b (d :: ds) ρ w = mForGo g b ds ρ' w1 := by
  rw [mForGo, e1, Option.bind_some, e2]; rfl
theorem mForGo_nil {g : SG} {b : MS} : mForGo g b [] ρ w = some (.nx ρ, w) := rfl
theorem boxW_rt {rk : RK} {ms : List AK} {f : MS} {ds : List WV} (h1 : ds.length = ms.length) (h2 : f (slotsW ms ds ++ List.replicate (n - ds.length) .un) w = some (.rt x, w1)) : box (runW n rk ms f) ds w = some (x, w1) := by
  rw [box_eq]; unfold runW; rw [if_pos h1, h2]; rfl
theorem boxW_nx {ms : List AK} {f : MS} {ds : List WV} (h1 : ds.length = ms.length) (h2 : f (slotsW ms ds ++ List.replicate (n - ds.length) .un) w = some (.nx ρ', w1)) : box (runW n (.md .val) ms f) ds w = some (.d .none, w1) := by
  rw [box_eq]; unfold runW; rw [if_pos h1, h2]; rfl
theorem boxO_rt {m : Md} {ms : List AK} {f : MS} {ds : List PyData} (h1 : ds.length = ms.length) (h2 : f (slotsW ms (ds.map .d) ++ List.replicate (n - ds.length) .un) [] = some (.rt (.d d), w1)) : box (outD (runW n (.md m) ms f)) ds = some d := by
  rw [box_eq]; unfold outD runW; rw [if_pos (by rw [List.length_map]; exact h1), List.length_map, h2]; rfl
/-- fields and methods -/
theorem mFld_eq {c fd : Str} {fr : MR} {vs : List (Str × WV)} (e : fr ρ w = some (h, w1)) (e2 : w1[h]? = some (.ins c vs)) (e3 : vs.lookup fd = some x) : mFld c fd fr ρ w = some (x, w1) := by
  unfold mFld; rw [e, Option.bind_some]; simp only [e2, if_true]; rw [e3]; rfl
theorem mSetF_eq {c fd : Str} {fr : MR} {fv : MQ} {vs vs' : List (Str × WV)} (e0 : fv ρ w = some (x, w1)) (e : fr ρ w1 = some (h, w2)) (e2 : w2[h]? = some (.ins c vs)) (hl : vs.length < 1000) (e3 : wPutF fd x vs = vs') : mSetF c fd fr fv ρ w = some (.nx ρ, w2.set h (.ins c vs')) := by
  unfold mSetF; rw [e0, Option.bind_some]; simp only []; rw [e, Option.bind_some]; simp only [e2]; rw [if_pos ⟨trivial, hl⟩, e3]
theorem mMeth_eq {c m : Str} {Fn : MF} {fr : MR} {vs : List (Str × WV)} {l : List WV} (e : fr ρ w = some (h, w1)) (e2 : w1[h]? = some (.ins c vs)) (e3 : vs.lookup m = none) (e4 : r ρ w1 = some (l, w2)) (e5 : Fn (.r h :: l) w2 = some (x, w3)) : mMeth c m Fn fr r ρ w = some (x, w3) := by
  unfold mMeth; rw [e, Option.bind_some]; simp only [e2]; rw [if_pos ⟨trivial, by rw [e3]; rfl⟩, e4]; exact e5
theorem mProp_eq {c : Str} {Fn : MF} {fr : MR} {vs : List (Str × WV)} (e : fr ρ w = some (h, w1)) (e2 : w1[h]? = some (.ins c vs)) (e5 : Fn [.r h] w1 = some (x, w2)) : mProp c Fn fr ρ w = some (x, w2) := by
  unfold mProp; rw [e, Option.bind_some]; simp only [e2, if_true]; exact e5
theorem mListI_eq {c fd : Str} {fr : MR} {vs : List (Str × WV)} {ds : List PyData} (e : fr ρ w = some (h, w1)) (e2 : w1[h]? = some (.ins c vs)) (e3 : vs.lookup fd = some (.d (.list ds))) : mListI c fd fr ρ w = some (.list ds, w1) := by
  unfold mListI; rw [e, Option.bind_some]; simp only [e2, if_true]; rw [e3]; rfl
theorem mMake_eq {c : Str} {Fn : MF} {dd l l2 : List WV} (e : r ρ w = some (l, w1)) (e2 : r2 ρ w1 = some (l2, w2)) (e3 : Fn (.r w2.length :: (l ++ (l2 ++ dd))) (w2 ++ [.ins c []]) = some (.d .none, w3)) : mMake c Fn dd r r2 ρ w = some (w2.length, w3) := by
  unfold mMake; rw [e, Option.bind_some]; simp only []; rw [e2, Option.bind_some]; simp only []; rw [e3]; rfl
end
end DV

namespace DV
open PySem L2 PySem.Spec PyProof.Rows
/-! ### methods of texts, over the world -/
def mBm (F : PyData → List PyData → Option PyData) (f : ME) (r : MA) : ME := fun ρ w => (f ρ w).bind fun x => (r ρ x.2).bind fun y => (F x.1 (unD y.1)).map fun d => (d, y.2)
@[simp] theorem mBm_r {F : PyData → List PyData → Option PyData} {f : ME} {r : MA} {ρ : Rho} {w : Wd} : mBm F f r ρ w = (f ρ w).bind fun x => (r ρ x.2).bind fun y => (F x.1 (unD y.1)).map fun d => (d, y.2) := rfl
section
variable {cl : Str → Addr} {X : Cx} {m : Md} {a e : Expr} {es : List Expr} {f : ME} {t : MA} {ms : List AK} {mm : List Md} {pos apos : Pos} {name : Str} {id : String}
theorem m_bm {r : V → List V → Hp → VK → Prop} {F : PyData → List PyData → Option PyData} (slot : PySem.Slot "str" name id) (ty : typeOf (.builtin id) = pure (.type "method_descriptor")) (rule : MtR X id r) (hF : MtF2 X.K m mm r F) (hS : ∀ d1 d2 d, F d1 d2 = some d → ∃ z, d1 = .str z)
    (ha : DMB cl X a f) (hb : DAM cl X ms (e :: es) t) (hms : ∀ q ∈ ms, q = .md .val) (am : ∀ m ∈ mm, m = .val ∨ m = .bor) (hln : mm.length = ms.length := by rfl) (hm : MN m := by first | exact .inl rfl | exact .inr rfl)
    (hbase : attributeBase a name X.env (eval a X.env) = eval a X.env := by rfl)
    (hfew : ((backTo pos (starEach (e :: es) X.env)).all (fun x => !x.1) && (backToKw pos (keywordEach [] X.env)).all (fun x => x.1.isSome)
      && decide ((e :: es).length + ([] : List Keyword).length + (if ([] : List Keyword).isEmpty then 0 else 1) < 30)) = true := by rfl)
    (hline : (apos.endLine == pos.line) = true := by rfl) (hs : starEach (e :: es) X.env = (false, eval e X.env) :: starEach es X.env := by rfl) (hplain : (backTo pos (starEach es X.env)).any (·.1) = false := by rfl) :
    DM cl X m (.Call (.Attribute a name apos) (e :: es) [] pos) (mBm F f t) :=
  ⟨(pe_bm PySem.F.plainAttrs_str slot ty rule ha.pe hb.pa hbase hfew hline hs hplain).imp fun σ H Q ⟨Fr, H0, G, ρ, w, α, d, w', s, ed, q⟩ => by
    obtain ⟨⟨d1, w1⟩, e1, ed⟩ := bind_some ed
    obtain ⟨⟨ys, w2⟩, e2, ed⟩ := bind_some ed
    obtain ⟨d', hd, e3⟩ := map_some ed
    cases e3
    refine ⟨Fr, H0, G, ρ, w, α, d1, w1, s, e1, fun G1 H1 α1 x n1 s1 r1 => ?_⟩
    obtain ⟨z, rfl⟩ := hS _ _ _ hd
    refine ⟨?_, Fr, H0, G1, ρ, w1, α1, ys, w2, s1, e2, fun G2 H2 α2 vs n2 s2 r2 => ?_⟩
    · cases RepB.str r1
      exact (rfl : ("str" : String) = "str")
    · obtain ⟨ra, rl⟩ := RWs.vals hms r2
      refine hF G2 (fun _ => none) H2 H2 _ _ (unD ys) x vs Q s2.gh (RepB.mono n2.g (n2.h.trans hideW_le) r1) (rms_of am (hln.trans rl.symm) ra) hd fun G3 H3 v gx r3 => ?_
      have n12 := n1.trans n2
      exact q G3 H3 α2 v (n12.trans (.gx gx)) (s2.gx' gx) ((RN.of hm s2.ww (r3 (fun _ => none))).start hm fun p hp => n12.dom' s2.ww s2.gh hp)⟩
def oRfind4 (a : PyData) (ds : List PyData) : Option PyData := match a, ds with
  | .str x, [.str y, .int i, .int j] => some (.int (Txt.rfindIn x y i j))
  | _, _ => none
theorem mtf_rfind4 {K : PySem.W.Frag} : MtF2 K .val [.val, .val, .val] (fun x xs H Q => ∃ (a b : Str) (i j : Int), x = .str a ∧ xs = [.str b, .int i, .int j] ∧ Q (.int (Txt.rfindIn a b i j)) H) oRfind4 := fun G H0 Hs H d1 d ds x xs Q e r1 r2 h q => by
  unfold oRfind4 at h
  split at h
  · cases h
    cases r1.str
    cases r2 with
    | cons h1 t =>
      cases t with
      | cons h2 t =>
        cases t with
        | cons h3 t =>
          cases t
          cases (show Rep K G (.str _) _ from h1)
          cases (show Rep K G (.int _) _ from h2)
          cases (show Rep K G (.int _) _ from h3)
          exact ⟨_, _, _, _, rfl, rfl, q G H _ (Gx.refl e) fun _ => .int _⟩
  · cases h
theorem s_rfind4 {d1 : PyData} {d2 : List PyData} {d : PyData} (h : oRfind4 d1 d2 = some d) : ∃ z, d1 = .str z := by
  unfold oRfind4 at h
  split at h
  · exact ⟨_, rfl⟩
  · cases h
end
end DV

namespace DV
open PySem L2 PySem.Spec PyProof.Rows
/-! ### list(range(..)) -/
def eLR1 (f : SE) : SE := fun ρ => (f ρ).bind fun x => match x with
  | .int n => if -1000000 ≤ n ∧ n ≤ 1000000 then some (.list (rangeD 0 n.toNat)) else none
  | _ => none
def eLR2 (f g : SE) : SE := fun ρ => (f ρ).bind fun x => (g ρ).bind fun y => match x, y with
  | .int a, .int b => if (-1000000 ≤ a ∧ a ≤ 1000000) ∧ (-1000000 ≤ b ∧ b ≤ 1000000) then some (.list (rangeD a (b - a).toNat)) else none
  | _, _ => none
section
variable {X : Cx} {a b : Expr} {f g : SE} {p p2 pos pos2 : Pos} {ρ : Rho}
theorem eLR1_r {n : Int} (h : f ρ = some (.int n)) (h2 : -1000000 ≤ n ∧ n ≤ 1000000) : eLR1 f ρ = some (.list (rangeD 0 n.toNat)) := by unfold eLR1; rw [h]; exact if_pos h2
theorem eLR2_r {x y : Int} (h : f ρ = some (.int x)) (h' : g ρ = some (.int y)) (h1 : -1000000 ≤ x ∧ x ≤ 1000000) (h2 : -1000000 ≤ y ∧ y ≤ 1000000) : eLR2 f g ρ = some (.list (rangeD x (y - x).toNat)) := by unfold eLR2; rw [h, h']; exact if_pos ⟨h1, h2⟩
theorem repA_rng {K : PySem.W.Frag} {G : Hp} (x y : Int) : RepA K G (rangeD x (y - x).toNat) (rgV x y) := by
  unfold rangeD rgV
  generalize List.range (y - x).toNat = l
  induction l with
  | nil => exact .nil
  | cons i l ih => exact .cons (.int _) ih
theorem d_lrng1 (hc : X.calm = true) (hl : Gl X "list") (ml : X.mg "list" = none) (hg : Gl X "range") (hm : X.mg "range" = none) (ha : DX X .val a f) (hs : starEach [a] X.env = (false, eval a X.env) :: starEach [] X.env := by rfl)
    (hs2 : starEach [.Call (.Name "range" p) [a] [] pos] X.env = (false, eval (.Call (.Name "range" p) [a] [] pos) X.env) :: starEach [] X.env := by rfl) : DX X .new (.Call (.Name "list" p2) [.Call (.Name "range" p) [a] [] pos] [] pos2) (eLR1 f) :=
  ⟨(pe_listRg hc hl ml (prg_1 hg hm ha.pe hs) hs2).imp fun σ H Q ⟨G0, H0, G, ρ, d, s, ed, q⟩ => by
    obtain ⟨x, e1, ed⟩ := bind_some ed
    refine ⟨G0, H0, G, ρ, x, s, e1, fun G1 H1 v gx1 r1 => ?_⟩
    split at ed
    · rename_i n
      obtain ⟨hn, rfl⟩ := if_some ed
      cases (show Rep X.K G1 (.int n) v from r1)
      refine ⟨n, rfl, ⟨by omega, by omega, by omega, by omega, by omega⟩, fun q' hq => ?_⟩
      have := repA_rng (K := X.K) (G := G1) 0 n
      rw [Int.sub_zero] at this
      exact q _ _ _ (gx1.trans (Gx.mine gx1.gh hq)) ⟨q', rfl, gx1.h.back hq, gx1.gh.back hq, .lst upd_same this⟩
    · cases ed⟩
theorem d_lrng2 (hc : X.calm = true) (hl : Gl X "list") (ml : X.mg "list" = none) (hg : Gl X "range") (hm : X.mg "range" = none) (ha : DX X .val a f) (hb : DX X .val b g) (hs : starEach [a, b] X.env = (false, eval a X.env) :: starEach [b] X.env := by rfl) (hs1 : starEach [b] X.env = (false, eval b X.env) :: starEach [] X.env := by rfl) (hpl : (backTo pos (starEach [b] X.env)).any (fun x => x.1) = false := by rfl)
    (hs2 : starEach [.Call (.Name "range" p) [a, b] [] pos] X.env = (false, eval (.Call (.Name "range" p) [a, b] [] pos) X.env) :: starEach [] X.env := by rfl) : DX X .new (.Call (.Name "list" p2) [.Call (.Name "range" p) [a, b] [] pos] [] pos2) (eLR2 f g) :=
  ⟨(pe_listRg hc hl ml (prg_2 hg hm ha.pe hb.pe hs hs1 hpl) hs2).imp fun σ H Q ⟨G0, H0, G, ρ, d, s, ed, q⟩ => by
    obtain ⟨x, e1, ed⟩ := bind_some ed
    obtain ⟨y, e2, ed⟩ := bind_some ed
    refine ⟨G0, H0, G, ρ, x, s, e1, fun G1 H1 v gx1 r1 => ⟨G0, H0, G1, ρ, y, s.gx' gx1, e2, fun G2 H2 u gx2 r2 => ?_⟩⟩
    split at ed
    · rename_i m n _
      obtain ⟨⟨hn, hn2⟩, rfl⟩ := if_some ed
      cases (show Rep X.K G1 (.int m) v from r1)
      cases (show Rep X.K G2 (.int n) u from r2)
      refine ⟨m, n, rfl, rfl, ⟨by omega, by omega, by omega, by omega, by omega⟩, fun q' hq => ?_⟩
      have gx := gx1.trans gx2
      exact q _ _ _ (gx.trans (Gx.mine gx.gh hq)) ⟨q', rfl, gx.h.back hq, gx.gh.back hq, .lst upd_same (repA_rng m n)⟩
    · cases ed⟩
end
end DV

namespace DV
open PySem L2 PySem.Spec PyProof.Rows
/-! ### instances made with defaults between the keywords -/
theorem vals_take : ∀ (n : Nat) {vs : List V} {us : List Value}, Vals vs us → Vals (vs.take n) (us.take n)
  | 0, _, _, _ => .nil
  | _ + 1, _, _, .nil => .nil
  | n + 1, _, _, .cons h t => .cons h (vals_take n t)
theorem vals_drop : ∀ (n : Nat) {vs : List V} {us : List Value}, Vals vs us → Vals (vs.drop n) (us.drop n)
  | 0, _, _, h => h
  | _ + 1, _, _, .nil => .nil
  | n + 1, _, _, .cons h t => vals_drop n t
def mMake2 (c : Str) (Fn : MF) (dA dB : List WV) (r r2 : MA) : MR := fun ρ w => (r ρ w).bind fun a => (r2 ρ a.2).bind fun b => (Fn (.r b.2.length :: (a.1 ++ (dA ++ (b.1 ++ dB)))) (b.2 ++ [.ins c []])).bind fun y => match y.1 with
  | .d .none => some (b.2.length, y.2)
  | _ => none
def MakeW2 (P : Program) (w : World) (K : PySem.W.Frag) (mg : Str → Option Value) (base : Heap) (cl : Str → Addr) (c x : Str) (ps : List Str) (k : Nat) (ms : List AK) (F : MF) (n : Nat) (ks : List Str) (dA dB : List V) : Prop :=
  ∃ (f : Addr) (fd : FuncData) (g : List Value → List Value → List Value), FnOk P w K mg base CX0 k f fd ps (spW K cl (.md .val) (.q :: ms) F) ∧ Mk K (cl c) f ∧ mg x = some (.ref (cl c)) ∧ KBn K fd ps (n + 1) ks g (fun vs zs => vs ++ (dA ++ (zs ++ dB)))
section
variable {cl : Str → Addr} {X : Cx} {e : Expr} {es : List Expr} {kws : List Keyword} {ms1 ms2 msA msB : List AK} {r r2 : MA} {p pos : Pos} {c x : Str} {k n : Nat} {ps ks : List Str} {Fn : MF} {dA dB : List V} {wA wB : List WV}
theorem mMake2_eq {ρ : Rho} {w w1 w2 w3 : Wd} {l l2 : List WV} (e : r ρ w = some (l, w1)) (e2 : r2 ρ w1 = some (l2, w2)) (e3 : Fn (.r w2.length :: (l ++ (wA ++ (l2 ++ wB)))) (w2 ++ [.ins c []]) = some (.d .none, w3)) : mMake2 c Fn wA wB r r2 ρ w = some (w2.length, w3) := by
  unfold mMake2; rw [e, Option.bind_some]; simp only []; rw [e2, Option.bind_some]; simp only []; rw [e3]; rfl
theorem r_make2 (C : MakeW2 X.prog X.w X.K X.mg X.base cl c x ps k (ms1 ++ (msA ++ (ms2 ++ msB))) Fn n ks dA dB) (hr : Room (k + 1) X.A) (ha : DAM cl X ms1 (e :: es) r) (hkw : DKM cl X ms2 kws r2) (hdA : ∀ (n : Nat) (α : Pl) (G B : Hp), RWs X.K n α G B msA wA dA) (hdB : ∀ (n : Nat) (α : Pl) (G B : Hp), RWs X.K n α G B msB wB dB) (hn : ms1.length = n := by rfl) (hk2 : ms2.length = ks.length := by rfl)
    (hg : Gl X x := by rfl) (hall : (backToKw pos (keywordEach kws X.env)).all (·.1.isSome) = true := by rfl) (hks : (backToKw pos (keywordEach kws X.env)).filterMap (·.1) = ks := by rfl)
    (hdb : (x == ("__debug__" : Str)) = false := by decide) (he : starEach (e :: es) X.env = (false, eval e X.env) :: starEach es X.env := by rfl)
    (hpl : ((backTo pos (starEach (e :: es) X.env)).any (·.1) || (backToKw pos (keywordEach kws X.env)).any (·.1.isNone)) = false := by rfl) : DR cl X (.Call (.Name x p) (e :: es) kws pos) (mMake2 c Fn wA wB r r2) := by
  obtain ⟨f, fd, g, FO, mk, hm, hb⟩ := C
  refine ⟨(pe_makeK mk FO hr hg hm hb pass0 ha.pa hkw.pk hall hks hdb he hpl).imp fun σ H Q ⟨F, H0, G, ρ, w, α, i, w', s, ed, q⟩ => ?_⟩
  obtain ⟨⟨da, w1⟩, e1, ed⟩ := bind_some ed
  obtain ⟨⟨db, w2⟩, e2, ed⟩ := bind_some ed
  obtain ⟨⟨y, w3⟩, e3, ed⟩ := bind_some ed
  split at ed
  · rename_i hy
    cases ed
    have hy : y = .d .none := hy
    subst hy
    refine ⟨F, H0, G, ρ, w, α, da, w1, s, e1, fun G1 H1 α1 vs n1 s1 ra => ⟨F, H0, G1, ρ, w1, α1, db, w2, s1, e2, fun G2 H2 α2 zs n2 s2 rb => ⟨ra.len.2.trans hn, rb.len.2.trans hk2, fun x dx nx ndx ne => ?_⟩⟩⟩
    have ax : (α2.put w2.length x dx).a w2.length = x := if_pos rfl
    have xx : (α2.put w2.length x dx).x w2.length = dx := if_pos rfl
    have hx1 : upd (upd H2 dx (.own x)) x (.ins (cl c) dx []) x = some (.ins (cl c) dx []) := upd_same
    have hx2 : upd (upd H2 dx (.own x)) x (.ins (cl c) dx []) dx = some (.own x) := by rw [upd_ne ne, upd_same]
    have z := s2.make (p := x) (x := dx) (o := .ins c []) (H' := upd (upd H2 dx (.own x)) x (.ins (cl c) dx [])) nx (fun _ => ndx) (fun q h1 h2 => by
      rw [upd_ne h1, upd_ne fun z => h2 ⟨rfl, z⟩]) ⟨[], by rw [ax, xx]; exact hx1, by rw [ax, xx]; exact hx2, rfl, .nil⟩
    have hlen : (w2 ++ [WO.ins c []]).length = w2.length + 1 := by simp
    have n12 := n2.trans z.2
    show spW X.K cl (.md .val) (.q :: (ms1 ++ (msA ++ (ms2 ++ msB)))) Fn ((V.ref x :: vs) ++ (dA ++ (zs ++ dB))) _ _ E0
    have rself : RepV X.K G2 (α2.put w2.length x dx) (w2 ++ [WO.ins c []]).length (.r w2.length) (V.ref x) := by
      have : RepV X.K G2 (α2.put w2.length x dx) (w2 ++ [WO.ins c []]).length (.r w2.length) (V.ref ((α2.put w2.length x dx).a w2.length)) := .r (by rw [hlen]; omega)
      rwa [ax] at this
    have rargs := RWs.q rself ((ra.mono n12.g n12.h n12.n n12.al).app ((hdA _ _ _ _).app ((rb.mono z.2.g z.2.h z.2.n z.2.al).app (hdB _ _ _ _))))
    refine ⟨rargs.len.2, G2, _, α2.put w2.length x dx, _, _, _, z.1.ww', rargs, e3, fun G3 H3 α3 v b r3 => ?_⟩
    have r3 : Rep X.K G3 .none v := r3.1
    cases r3
    refine ⟨rfl, ?_⟩
    have hn3 := (b.al w2.length (by rw [hlen]; omega)).1
    rw [ax] at hn3
    have := q G3 H3 α3 ((n1.trans n12).trans b.nx) (z.1.back b) (Nat.lt_of_lt_of_le (show w2.length < (w2 ++ [WO.ins c []]).length by rw [hlen]; omega) b.n)
    rw [hn3] at this
    exact this
  · cases ed
end
end DV

namespace DV
open PySem L2 PySem.Spec PyProof.Rows
/-! ### tables that the module's top has written -/
def leafV : PyData → V
  | .int i => .int i
  | .str x => .str x
  | .bool b => .bl b
  | _ => .non
def isLeaf : PyData → Bool
  | .int _ => true
  | .str _ => true
  | .bool _ => true
  | .none => true
  | _ => false
theorem rep_leaf {K : PySem.W.Frag} {G : Hp} {d : PyData} (h : isLeaf d = true) : Rep K G d (leafV d) := by
  cases d with
  | int i => exact .int i
  | str x => exact .str x
  | bool b => exact .bl b
  | none => exact .non
  | _ => cases h
theorem reps_leaf {K : PySem.W.Frag} {G : Hp} : ∀ {l : List PyData}, (∀ d ∈ l, isLeaf d = true) → RepA K G l (l.map leafV)
  | [], _ => .nil
  | d :: l, h => .cons (rep_leaf (h d List.mem_cons_self)) (reps_leaf fun e he => h e (List.mem_cons_of_mem _ he))
/-- a tuple of the top -/
def KTup (K : PySem.W.Frag) (q : Addr) (vs : List V) : Prop := ∃ o its n, K.lookup q = some o ∧ o.cls = Value.type "tuple" ∧ o.data = Data.seq its n ∧ its.size ≤ sizeLine ∧ Vals vs its.toList
theorem KTup.sqt {K : PySem.W.Frag} {q : Addr} {vs : List V} (h : KTup K q vs) (H : Hp) : SqT K H q vs := .inr h
theorem KTup.of {K : PySem.W.Frag} {q : Addr} {vs : List V} {od : Option Addr} {its : Array Value} {n : Nat} {sl : Array (Option Value)} (h : K.lookup q = some ⟨.type "tuple", od, .seq its n, sl⟩) (v : Vals vs its.toList) (hz : vs.length ≤ 1000) : KTup K q vs := by
  refine ⟨_, its, n, h, rfl, rfl, ?_, v⟩
  have : ∀ {vs : List V} {us : List Value}, Vals vs us → us.length = vs.length := by
    intro vs us h
    induction h with
    | nil => rfl
    | cons _ _ ih => exact congrArg (· + 1) ih
  have := this v
  rw [Array.length_toList] at this
  rw [sizeLine_eq]; omega
def StrKeys (P : Params) : List DictEntry → List Str → Prop
  | [], [] => True
  | e :: r, k :: ks => (∃ t, e.key = .str k t ∧ e.hash = PyData.keyHash P k) ∧ StrKeys P r ks
  | _, _ => False
theorem StrKeys.lit {P : Params} : ∀ {es : List DictEntry} {ks : List Str}, StrKeys P es ks → PySem.W.KeysLit P es
  | [], [], _ => trivial
  | _ :: _, _ :: _, ⟨⟨t, h1, h2⟩, r⟩ => ⟨⟨_, t, h1, h2⟩, r.lit⟩
  | [], _ :: _, h => h.elim
  | _ :: _, [], h => h.elim
theorem StrKeys.len {P : Params} : ∀ {es : List DictEntry} {ks : List Str}, StrKeys P es ks → es.length = ks.length
  | [], [], _ => rfl
  | _ :: _, _ :: _, ⟨_, r⟩ => congrArg (· + 1) r.len
  | [], _ :: _, h => h.elim
  | _ :: _, [], h => h.elim
theorem StrKeys.at {P : Params} : ∀ {es : List DictEntry} {ks : List Str}, StrKeys P es ks → ∀ (j : Nat) (e : DictEntry), es[j]? = some e → ∃ k t, ks[j]? = some k ∧ e.key = .str k t
  | [], [], _, j, e, he => by simp at he
  | x :: es, k :: ks, ⟨⟨t, h1, h2⟩, r⟩, 0, e, he => by
    have : x = e := by simpa using he
    subst this
    exact ⟨k, t, rfl, h1⟩
  | x :: es, k :: ks, ⟨_, r⟩, j + 1, e, he => by
    obtain ⟨k', t, a, b⟩ := r.at j e (by simpa using he)
    exact ⟨k', t, by simpa using a, b⟩
  | [], _ :: _, h, _, _, _ => h.elim
  | _ :: _, [], h, _, _, _ => h.elim
/-- a dict of the top, by its keys -/
structure KDc (K : PySem.W.Frag) (w : World) (a : Addr) (ks : List Str) : Prop where
  lit : ∃ es n, K.lookup a = some ⟨.type "dict", none, .dict es n, #[]⟩ ∧ StrKeys w.params es.toList ks
  low : (a == sysModules) = false
theorem KDc.at {K : PySem.W.Frag} {w : World} {a : Addr} {ks : List Str} (h : KDc K w a ks) {z : Str} {u : Value} {v : V} (hu : PySem.W.nsIn K a z = some (some u)) (r : RelV v u) : KDct K w a z v := by
  obtain ⟨⟨es, n, h1, h2⟩, _⟩ := h
  exact ⟨es, n, u, h1, h2.lit, hu, r⟩
/-- a table of leaves, of tuples -/
def GLeaf (K : PySem.W.Frag) (w : World) (mg : Str → Option Value) (x : Str) (tab : List (Str × PyData)) : Prop := ∃ a, mg x = some (.ref a) ∧ ∀ p ∈ tab, isLeaf p.2 = true ∧ KDct K w a p.1 (leafV p.2)
def GTups (K : PySem.W.Frag) (w : World) (mg : Str → Option Value) (x : Str) (tab : List (Str × List PyData)) : Prop := ∃ a, mg x = some (.ref a) ∧ ∀ p ∈ tab, (∀ d ∈ p.2, isLeaf d = true) ∧ ∃ q, KDct K w a p.1 (.ref q) ∧ KTup K q (p.2.map leafV)
def GHas (K : PySem.W.Frag) (w : World) (mg : Str → Option Value) (x : Str) (yes no : List Str) : Prop := ∃ a ks, mg x = some (.ref a) ∧ KDc K w a ks ∧ (∀ z ∈ yes, ∃ u, PySem.W.nsIn K a z = some (some u)) ∧ ∀ z ∈ no, PySem.W.nsIn K a z = some none
def GTup (K : PySem.W.Frag) (mg : Str → Option Value) (x : Str) (l : List PyData) : Prop := ∃ q, mg x = some (.ref q) ∧ (∀ d ∈ l, isLeaf d = true) ∧ KTup K q (l.map leafV)
def GKeys (K : PySem.W.Frag) (w : World) (mg : Str → Option Value) (x : Str) (ks : List Str) : Prop := ∃ a, mg x = some (.ref a) ∧ KDc K w a ks
theorem look_mem {α : Type} : ∀ {tab : List (Str × α)} {z : Str} {d : α}, tab.lookup z = some d → (z, d) ∈ tab
  | [], _, _, h => by cases h
  | (k, e) :: r, z, d, h => by
    rw [List.lookup_cons] at h
    by_cases c : z == k
    · rw [c] at h
      have h : e = d := Option.some.inj h
      have : z = k := by simpa using c
      subst h; subst this
      exact List.mem_cons_self
    · have c : (z == k) = false := by simpa using c
      rw [c] at h
      exact List.mem_cons_of_mem _ (look_mem h)
def eKGet (tab : List (Str × PyData)) (f : SE) : SE := fun ρ => (f ρ).bind fun y => match y with
  | .str z => tab.lookup z
  | _ => none
def eKHas (yes no : List Str) (f : SE) : SE := fun ρ => (f ρ).bind fun y => match y with
  | .str z => if z ∈ yes then some (.bool true) else if z ∈ no then some (.bool false) else none
  | _ => none
def strsOf : List PyData → Option (List Str)
  | [] => some []
  | .str z :: r => (strsOf r).map (z :: ·)
  | _ => none
/-- x in a tuple of texts -/
def oInStrs (l : List Str) : PyData → Option PyData
  | .str z => some (.bool (decide (z ∈ l)))
  | _ => none
def eKInT (l : List Str) (f : SE) : SE := fun ρ => (f ρ).bind (oInStrs l)
def eKInG (tab : List (Str × List Str)) (f g : SE) : SE := fun ρ => (f ρ).bind fun x => (g ρ).bind fun y => match y with
  | .str z => (tab.lookup z).bind fun l => oInStrs l x
  | _ => none
def sKAsg (tab : List (Str × List PyData)) (f : SE) (n : Nat) (g : SGs) : SS := fun ρ => (f ρ).bind fun y => match y with
  | .str z => (tab.lookup z).bind fun l => if l.length = n then (g l ρ).map .nx else none
  | _ => none
section
variable {X : Cx} {a b e : Expr} {f g : SE} {x : Str} {p p2 p3 pos : Pos} {tab : List (Str × PyData)} {tabS : List (Str × List Str)} {tabT : List (Str × List PyData)} {yes no ks ys l : List Str} {rm : Md}
theorem d_kget (T : GLeaf X.K X.w X.mg x tab) (hg : Gl X x) (hb : DX X .val b f) (hs : PlainIx b := by intro _ _; rfl) (hd : (x == ("__debug__" : Str)) = false := by decide) : DX X .val (.Subscript (.Name x p) b pos) (eKGet tab f) := by
  obtain ⟨a, hm, T⟩ := T
  exact ⟨(pe_ix ix_kdict (pe_glob (v := .ref a) hg hm rfl hd) hb.pe hs).imp fun σ H Q ⟨G0, H0, G, ρ, d, s, ed, q⟩ => by
    obtain ⟨y, e1, ed⟩ := bind_some ed
    refine ⟨G0, H0, G, ρ, y, s, e1, fun G1 H1 v gx1 r1 => ?_⟩
    split at ed
    · rename_i z
      obtain ⟨hl, hk⟩ := T _ (look_mem ed)
      cases (show Rep X.K G1 (.str z) v from r1)
      exact ⟨a, z, _, rfl, rfl, hk, q G1 H1 _ gx1 (rep_leaf hl)⟩
    · cases ed⟩
theorem d_khas (T : GHas X.K X.w X.mg x yes no) (hg : Gl X x) (hb : DX X .val a f) (hm : behindInMarks .In (.Name x p) = false := by rfl) (hd : (x == ("__debug__" : Str)) = false := by decide) : DX X .val (.Compare a [.In] [.Name x p] pos) (eKHas yes no f) := by
  obtain ⟨ad, ks, hmg, D, T1, T2⟩ := T
  obtain ⟨⟨es, n, h1, h2⟩, low⟩ := D
  exact ⟨(pe_cmpR (op_in_kd ⟨h1, h2.lit, low⟩) hb.pe (pe_glob (v := .ref ad) hg hmg rfl hd) hm).imp fun σ H Q ⟨G0, H0, G, ρ, d, s, ed, q⟩ => by
    obtain ⟨y, e1, ed⟩ := bind_some ed
    refine ⟨G0, H0, G, ρ, y, s, e1, fun G1 H1 v gx1 r1 => ?_⟩
    split at ed
    · rename_i z
      cases (show Rep X.K G1 (.str z) v from r1)
      split at ed
      · rename_i c
        cases ed
        obtain ⟨u, hu⟩ := T1 z c
        exact ⟨z, _, rfl, rfl, hu, q G1 H1 _ gx1 (.bl true)⟩
      · obtain ⟨c, rfl⟩ := if_some ed
        exact ⟨z, _, rfl, rfl, T2 z c, q G1 H1 _ gx1 (.bl false)⟩
    · cases ed⟩
theorem inV_strs (z : Str) : ∀ l : List Str, inV (.str z) (l.map V.str) = decide (z ∈ l)
  | [] => rfl
  | y :: l => by
    unfold inV
    rw [List.map_cons, List.any_cons]
    have ih := inV_strs z l
    unfold inV at ih
    rw [ih]
    show ((y == z) || _) = _
    by_cases c : y = z
    · subst c; simp
    · have c2 : ¬ z = y := fun h => c h.symm
      simp [c, c2]
theorem flat_strs (l : List Str) : (l.map V.str).all flatV = true := by
  rw [List.all_eq_true]
  intro v hv
  obtain ⟨z, _, rfl⟩ := List.mem_map.mp hv
  rfl
theorem leaf_strs (l : List Str) : (l.map PyData.str).map leafV = l.map V.str := by rw [List.map_map]; rfl
theorem d_kinT (T : GTup X.K X.mg x (l.map .str)) (hg : Gl X x) (hb : DX X .val a f) (hm : behindInMarks .In (.Name x p) = false := by rfl) (hd : (x == ("__debug__" : Str)) = false := by decide) : DX X .val (.Compare a [.In] [.Name x p] pos) (eKInT l f) := by
  obtain ⟨ad, hmg, _, T⟩ := T
  rw [leaf_strs] at T
  exact ⟨(pe_cmpR op_in_seq hb.pe (pe_glob (v := .ref ad) hg hmg rfl hd) hm).imp fun σ H Q ⟨G0, H0, G, ρ, d, s, ed, q⟩ => by
    obtain ⟨y, e1, ed⟩ := bind_some ed
    refine ⟨G0, H0, G, ρ, y, s, e1, fun G1 H1 v gx1 r1 => ?_⟩
    unfold oInStrs at ed
    split at ed
    · rename_i z
      cases ed
      cases (show Rep X.K G1 (.str z) v from r1)
      refine ⟨ad, _, rfl, .inr (T.sqt H1), rfl, flat_strs l, ?_⟩
      have := inV_strs z l
      rw [if_neg Bool.false_ne_true, this]
      exact q G1 H1 _ gx1 (.bl _)
    · cases ed⟩
theorem d_kinG (T : GTups X.K X.w X.mg x (tabS.map fun p => (p.1, p.2.map .str))) (hg : Gl X x) (ha : DX X .val a f) (hb : DX X .val b g) (hs : PlainIx b := by intro _ _; rfl) (hm : behindInMarks .In (.Subscript (.Name x p) b p2) = false := by rfl) (hd : (x == ("__debug__" : Str)) = false := by decide) : DX X .val (.Compare a [.In] [.Subscript (.Name x p) b p2] pos) (eKInG tabS f g) := by
  obtain ⟨ad, hmg, T⟩ := T
  exact ⟨(pe_cmpR op_in_seq ha.pe (pe_ix ix_kdict (pe_glob (v := .ref ad) hg hmg rfl hd) hb.pe hs) hm).imp fun σ H Q ⟨G0, H0, G, ρ, d, s, ed, q⟩ => by
    obtain ⟨y, e1, ed⟩ := bind_some ed
    obtain ⟨zz, e2, ed⟩ := bind_some ed
    refine ⟨G0, H0, G, ρ, y, s, e1, fun G1 H1 v gx1 r1 => ⟨G0, H0, G1, ρ, zz, s.gx' gx1, e2, fun G2 H2 u gx2 r2 => ?_⟩⟩
    split at ed
    · rename_i z
      obtain ⟨l, e3, ed⟩ := bind_some ed
      obtain ⟨_, qd, k1, k2⟩ := T (z, l.map .str) (List.mem_map.mpr ⟨_, look_mem e3, rfl⟩)
      rw [leaf_strs] at k2
      cases (show Rep X.K G2 (.str z) u from r2)
      unfold oInStrs at ed
      split at ed
      · rename_i v' _ _
        cases ed
        cases (show Rep X.K G1 (.str v') v from r1)
        refine ⟨ad, z, _, rfl, rfl, k1, qd, _, rfl, .inr (k2.sqt H2), rfl, flat_strs l, ?_⟩
        rw [if_neg Bool.false_ne_true, inV_strs v' l]
        exact q G2 H2 _ (gx1.trans gx2) (.bl _)
      · cases ed
    · cases ed⟩
theorem s_kasg {es : List Expr} {k n : Nat} {gs : SGs} (T : GTups X.K X.w X.mg x tabT) (hc : X.calm = true) (hg : Gl X x) (hb : DX X .val b f) (h : DGs X es gs) (hn : (assignEach es X.env).length = n := by rfl) (hst : (assignEach es X.env).findIdx? (·.1) = none := by rfl) (hpl : PlainIx b := by intro _ _; rfl)
    (hs : swapsWithSole [.Tuple es k p3] (.Subscript (.Name x p) b p2) pos.line X.env = pure false := by rfl) (hw : swappedStores [.Tuple es k p3] (.Subscript (.Name x p) b p2) X.env = pure none := by rfl)
    (h1 : (assignEach [.Tuple es k p3] X.env).map (·.2) = [assign (.Tuple es k p3) X.env] := by rfl) (hd : (x == ("__debug__" : Str)) = false := by decide) : DS X rm (.Assign [.Tuple es k p3] (.Subscript (.Name x p) b p2) pos) (sKAsg tabT f n gs) := by
  obtain ⟨ad, hmg, T⟩ := T
  exact ⟨(ps_asg (pe_ix ix_kdict (pe_glob (v := .ref ad) hg hmg rfl hd) hb.pe hpl) (pg_tup hc h.pgs hn hst) hs hw h1).imp fun D σ H ⟨G0, H0, G, ρ, o, s, e, q⟩ => by
    obtain ⟨y, e1, e⟩ := bind_some e
    refine ⟨G0, H0, G, ρ, y, s, e1, fun G1 H1 v gx1 r1 => ?_⟩
    split at e
    · rename_i z
      obtain ⟨l, e3, e⟩ := bind_some e
      obtain ⟨hl, e⟩ := ite_some e
      obtain ⟨ρ', e4, e5⟩ := map_some e
      cases e5
      obtain ⟨lf, qd, k1, k2⟩ := T (z, l) (look_mem e3)
      cases (show Rep X.K G1 (.str z) v from r1)
      refine ⟨ad, z, _, rfl, rfl, k1, qd, _, rfl, k2.sqt H1, by rw [List.length_map]; exact hl, G0, H0, G1, ρ, l, ρ', s.gx' gx1, reps_leaf lf, e4, fun σ' s' => q G1 σ' H1 gx1.g s'⟩
    · cases e⟩
end
section
variable {X : Cx}
/-- sorted(d) of a dict of the top, all keys texts -/
theorem call_sortedKD (hcalm : X.calm = true) {ks : List Str} {a : Addr} (D : KDc X.K X.w a ks) (h64 : ks.length < 64) : CallR X (.builtin "sorted") (fun xs H Q => xs = [.ref a] ∧ ∀ ys p, ys.Perm ks → sortedS ys = true → H p = none → Q (.ref p) (upd H p (.lst (ys.map V.str)))) := by
  intro pins s σ H xs us Q I r q
  obtain ⟨ex, q⟩ := q
  subst ex
  obtain ⟨u, eu, rx⟩ := vals1 r
  subst eu
  cases rx
  obtain ⟨⟨es, n, hl0, sk⟩, lo⟩ := D
  have hl : es.size = ks.length := by
    have := sk.len
    rw [Array.length_toList] at this
    exact this
  have h16 : es.size ≤ sizeLine := by rw [hl, sizeLine_eq]; omega
  have hraw : s.heap.DictRaw a es n := ⟨_, I.kIn _ _ hl0, ⟨rfl, rfl, rfl⟩, rfl⟩
  refine Calls.call_function_entry PyProof.Rows.kind_sorted PyProof.Rows.plain_sorted PyProof.Rows.entry_sorted (PyProof.Rows.args_sorted1 _) ?_
  unfold Builtin.«sorted»
  refine wpAny_bind (m := checkCount "sorted" 1 1 _) (wpAny_pure ?_)
  refine wpAny_bind (PySem.W.kdu_collect (A := X.A.in1) (PySem.KdlSrc.rawDict (ep := n) lo) (I.ok.hd hcalm) hraw h16 fun h' tk acc hk hacc => ?_)
  have hal : acc.toList.length = ks.length := by rw [Array.length_toList, hacc.1, hl]
  have hS : StrsAre acc.toList ks := strs_at hal fun j v e => by
    obtain ⟨hi, e1⟩ := hacc.2 j v (by rw [← Array.getElem?_toList]; exact e)
    obtain ⟨k, t, a1, a2⟩ := sk.at j es[j] (by rw [Array.getElem?_toList]; exact Array.getElem?_eq_getElem hi)
    exact ⟨k, t, a1, e1.trans a2⟩
  have I1 : Inv X pins σ H { s with heap := h', toks := tk } := I.kept hk
  refine wpAny_bind (wpAny_newList ?_ (by rw [hal, sizeLine_eq]; omega))
  have hoL : (h'.push (seqObj "list" acc.toList.toArray 0)).get? h'.objs.size = some (seqObj "list" acc.toList.toArray 0) := Heap.get?_push_size _ rfl
  show wpAny _ _ _ _ _ { s with heap := h'.push (seqObj "list" acc.toList.toArray 0), toks := tk }
  refine wpAny_bind (wpAny_holding (wpAny_call_entry PyProof.Rows.slot_list_sort ⟨_, hoL, rfl⟩ PyProof.Rows.entry_list_sort
    (list_sort_treeK strKind_oneLt (s := { s with heap := h'.push (seqObj "list" acc.toList.toArray 0), toks := tk }) hoL hS.keysOf (fun v₁ v₂ rest e => keyKind_strs (by rw [← e]; exact hS)) (by rw [hal]; exact h64) fun st' hp hs => ⟨_, rfl, ?_⟩)
    (PyProof.Rows.args_list_sort _)))
  obtain ⟨ys, g1, g2, g3⟩ := sorted_out_str hS hp hs
  obtain ⟨e', he'⟩ := PyProof.Rows.sortedHeap_at (vs := acc.toList) (out := (arrOf st').map (·.2)) hoL
  have hlen : (ys.map V.str).length ≤ sizeLine := by
    rw [List.length_map, g2.length_eq]
    exact Nat.le_trans (Nat.le_of_lt h64) (by decide)
  refine wpAny_pure ⟨_, rfl, .ref h'.objs.size, upd H h'.objs.size (.lst (ys.map V.str)), I1.laid (t' := tk) (fun b u e => ?_) (Nat.le_refl _)
    (show ObjOk X.prog X.w _ _ _ (.lst (ys.map V.str)) from ⟨hlen, ((arrOf st').map (·.2)).toList, e', vals_of_strs g1, by rw [Array.toArray_toList]; exact he'⟩), rfl, q ys _ g2 g3 (I1.hok.fresh (Nat.le_refl _))⟩
  have hb : b < h'.objs.size := Heap.lt_size e
  rw [PyProof.Rows.sortedHeap_old (Nat.ne_of_lt hb) (by rw [size_push']; exact Nat.lt_succ_of_lt hb)]
  exact Heap.get?_push_of_some _ e
/-- two sorted lists of texts with the same members -/
theorem sortedS_pw : ∀ (l : List Str), sortedS l = true → l.Pairwise (fun a b => ¬ b.cps.toList < a.cps.toList)
  | [], _ => .nil
  | x :: r, h => by
    have go : ∀ (r : List Str) (p : Str), risingS p r = true → (p :: r).Pairwise (fun a b => ¬ b.cps.toList < a.cps.toList) := by
      intro r
      induction r with
      | nil => intro p _; exact List.pairwise_singleton _ _
      | cons y r ih =>
        intro p hp
        have hp : (!ltCps y.cps.toList p.cps.toList && risingS y r) = true := hp
        rw [Bool.and_eq_true] at hp
        have h2 := ih y hp.2
        have h1 : ¬ y.cps.toList < p.cps.toList := by
          have := hp.1
          rw [ltCps_eq] at this
          simpa using this
        refine List.pairwise_cons.mpr ⟨fun z hz => ?_, h2⟩
        rcases List.mem_cons.mp hz with rfl | hz
        · exact h1
        · exact List.le_trans h1 ((List.pairwise_cons.mp h2).1 z hz)
    exact go r x h
theorem sortedS_uniq {ys ks : List Str} (hp : ys.Perm ks) (h1 : sortedS ys = true) (h2 : sortedS ks = true) : ys = ks :=
  List.Perm.eq_of_pairwise (fun a b _ _ h h' => by
    have : a.cps.toList = b.cps.toList := List.le_antisymm h h'
    cases a with | mk ca => cases b with | mk cb =>
    have : ca.toList = cb.toList := this
    rw [Array.toList_inj.mp this]) (sortedS_pw ys h1) (sortedS_pw ks h2) hp
theorem d_ksort {x : Str} {p p2 pos : Pos} {ks : List Str} (T : GKeys X.K X.w X.mg x ks) (hc : X.calm = true) (hs : sortedS ks = true) (h64 : ks.length < 64) (hg : Gl X "sorted") (hm : X.mg "sorted" = none) (hgx : Gl X x) (hd : (x == ("__debug__" : Str)) = false := by decide)
    (hst : starEach [.Name x p] X.env = (false, eval (.Name x p) X.env) :: starEach [] X.env := by rfl) (hpl : (backTo pos (starEach [] X.env)).any (·.1) = false := by rfl) : DX X .new (.Call (.Name "sorted" p2) [.Name x p] [] pos) (eK (.list (ks.map .str))) := by
  obtain ⟨a, hmg, D⟩ := T
  exact ⟨(pe_callB (call_sortedKD hc D h64) hg hm PyProof.Rows.boot_sorted (pa_cons (pe_glob (v := .ref a) hgx hmg rfl hd) pa_nil hst) (by decide) (by decide) hst hpl).imp fun σ H Q ⟨G0, H0, G, ρ, d, s, ed, q⟩ => by
    cases ed
    refine ⟨rfl, fun ys p hp h1 np => ?_⟩
    have e := sortedS_uniq hp h1 hs
    subst e
    have gen : ∀ l : List Str, RepA X.K G (l.map .str) (l.map V.str) := by
      intro l
      induction l with
      | nil => exact .nil
      | cons y l ih => exact .cons (.str y) ih
    have ra := gen ys
    exact q _ _ _ (Gx.mine s.gx.gh np) ⟨p, rfl, np, s.gx.gh.back np, .lst upd_same ra⟩⟩
end
end DV

namespace DV
open PySem L2 PySem.Spec PyProof.Rows
/-! ### tests with tables of the top; list(script) -/
section
variable {X : Cx} {a b e : Expr} {f g : SE} {x : Str} {p p2 p3 pos : Pos} {tabS : List (Str × List Str)} {yes no l : List Str}
theorem t_khas (T : GHas X.K X.w X.mg x yes no) (hg : Gl X x) (hb : DX X .val a f) (hm : behindInMarks .In (.Name x p) = false := by rfl) (hd : (x == ("__debug__" : Str)) = false := by decide) : DT X (.Compare a [.In] [.Name x p] pos) (bT (eKHas yes no f)) := by
  obtain ⟨ad, ks, hmg, D, T1, T2⟩ := T
  obtain ⟨⟨es, n, h1, h2⟩, low⟩ := D
  exact ⟨(pt_cmpR (op_in_kd ⟨h1, h2.lit, low⟩) hb.pe (pe_glob (v := .ref ad) hg hmg rfl hd) hm).imp (tTest_of fun σ H Q ⟨G0, H0, G, ρ, d, s, ed, q⟩ => by
    obtain ⟨y, e1, ed⟩ := bind_some ed
    refine ⟨G0, H0, G, ρ, y, s, e1, fun G1 H1 v gx1 r1 => ?_⟩
    split at ed
    · rename_i z
      cases (show Rep X.K G1 (.str z) v from r1)
      split at ed
      · rename_i c
        cases ed
        obtain ⟨u, hu⟩ := T1 z c
        exact ⟨z, _, rfl, rfl, hu, q G1 H1 _ gx1 (.bl true)⟩
      · obtain ⟨c, rfl⟩ := if_some ed
        exact ⟨z, _, rfl, rfl, T2 z c, q G1 H1 _ gx1 (.bl false)⟩
    · cases ed)⟩
/-- list(script) -/
theorem d_listS (ha : DX X .scr a f) (hm : X.mg "list" = none) (hg : Gl X "list" := by rfl) (he : starEach [a] X.env = (false, eval a X.env) :: starEach [] X.env := by rfl) (hpl : (backTo pos (starEach [] X.env)).any (·.1) = false := by rfl) :
    DX X .new (.Call (.Name "list" p) [a] [] pos) (eCall cList (aCons f aNil)) :=
  ⟨(pe_callTy call_list_of hg hm PyProof.Rows.boot_list (pa_cons ha.pe pa_nil he) (by decide) (by decide) he hpl).imp fun σ H Q ⟨G0, H0, G, ρ, d, s, ed, q⟩ => by
    obtain ⟨ds, e1, e2⟩ := bind_some ed
    obtain ⟨d1, e3, e4⟩ := bind_some e1
    obtain ⟨_, e5, e6⟩ := bind_some e4
    cases e5
    cases e6
    refine ⟨G0, H0, G, ρ, d1, s, e3, fun G1 H1 v gx r => ?_⟩
    obtain ⟨b, ns, rfl, rfl, hq⟩ := r
    cases e2
    exact ⟨b, _, rfl, .inl hq, fun p np => newList (.inr rfl) gx.gh np (RepA.ints ns) fun G' H' v gx' r' => q G' H' v (gx.trans gx') ((r' H0).start gx.h)⟩⟩
end
end DV

namespace DV
open PySem L2
/-! ### reckoning: lists of the world -/
section
variable {ρ ρ' : Rho} {w w1 w2 w3 : Wd} {d : PyData} {k n h : Nat} {i : Int} {a b : ME} {q : MQ} {fr : MR} {r : MA} {x z : WV} {l l' args : List WV}
@[simp] theorem maQ_r : maQ q r ρ w = (q ρ w).bind fun x => (r ρ x.2).map fun y => (x.1 :: y.1, y.2) := rfl
theorem mIx_eq (e : fr ρ w = some (h, w1)) (e2 : b ρ w1 = some (.int i, w2)) (e3 : w2[h]? = some (.lst l)) (e4 : atI l i = some z) : mIx fr b ρ w = some (z, w2) := by
  unfold mIx; rw [e, Option.bind_some]; simp only []; rw [e2, Option.bind_some]; simp only [e3]; rw [e4]; rfl
theorem mIxD_eq (e : fr ρ w = some (h, w1)) (e2 : b ρ w1 = some (.int i, w2)) (e3 : w2[h]? = some (.lst l)) (e4 : atI l i = some (.d d)) : mD (mIx fr b) ρ w = some (d, w2) := mD_eq (mIx_eq e e2 e3 e4)
theorem mIxR_eq (e : fr ρ w = some (h, w1)) (e2 : b ρ w1 = some (.int i, w2)) (e3 : w2[h]? = some (.lst l)) (e4 : atI l i = some (.r n)) : mR (mIx fr b) ρ w = some (n, w2) := by
  unfold mR; rw [mIx_eq e e2 e3 e4]; rfl
theorem mLenL_eq (e : fr ρ w = some (h, w1)) (e3 : w1[h]? = some (.lst l)) : mLenL fr ρ w = some (.int l.length, w1) := by
  unfold mLenL; rw [e, Option.bind_some]; simp only [e3]
theorem mPutI_eq (e0 : q ρ w = some (x, w1)) (e : fr ρ w1 = some (h, w2)) (e2 : b ρ w2 = some (.int i, w3)) (e3 : w3[h]? = some (.lst l)) (e4 : ixN l.length i = some k) : mPutI fr b q ρ w = some (.nx ρ, w3.set h (.lst (l.set k x))) := by
  unfold mPutI; rw [e0, Option.bind_some]; simp only []; rw [e, Option.bind_some]; simp only []; rw [e2, Option.bind_some]; simp only [e3]; rw [e4]; rfl
theorem mMth_eq {Fn : List WV → List WV → Option (WV × List WV)} {l0 : List WV} (e : fr ρ w = some (h, w1)) (e1 : w1[h]? = some (.lst l0)) (e2 : r ρ w1 = some (args, w2)) (e3 : w2[h]? = some (.lst l)) (e4 : Fn l args = some (x, l')) : mMth Fn fr r ρ w = some (x, w2.set h (.lst l')) := by
  unfold mMth; rw [e, Option.bind_some]; simp only [e1]; rw [e2, Option.bind_some]; simp only [e3]; rw [e4]; rfl
theorem mCall_eq {Fn : MF} (e : r ρ w = some (args, w1)) (e2 : Fn args w1 = some (.d d, w2)) : mCall Fn r ρ w = some (d, w2) := by
  unfold mCall; rw [e, Option.bind_some]; simp only []; rw [e2]; rfl
theorem mNewL_eq (e : r ρ w = some (l, w1)) (hl : l.length ≤ 1000) : mNewL r ρ w = some (w1.length, w1 ++ [.lst l]) := by
  unfold mNewL; rw [e, Option.bind_some]
  exact if_pos (by rw [sizeLine_eq]; show l.length ≤ _; omega)
theorem mMk_eq {ds : List PyData} (e : a ρ w = some (.list ds, w1)) : mMk a ρ w = some (w1.length, w1 ++ [.lst (ds.map .d)]) := by
  unfold mMk; rw [e]; rfl
@[simp] theorem mVq_0s : mVar 0 (.st h :: ρ) w = some (.r h, w) := rfl
@[simp] theorem mVq_s {s : Slot} : mVar (k + 1) (s :: ρ) w = mVar k ρ w := rfl
@[simp] theorem mTup_r : mTup r ρ w = (r ρ w).bind fun x => if (unD x.1).length ≤ sizeLine then some (.tuple (unD x.1), x.2) else none := rfl
@[simp] theorem mLst_r : mLst r ρ w = (r ρ w).bind fun x => if (unD x.1).length ≤ sizeLine then some (.list (unD x.1), x.2) else none := rfl
end
end DV

namespace DV
open PySem L2 PySem.Spec PyProof.Rows
/-! ### a text in a tuple of texts; == of texts -/
theorem strsOf_inv : ∀ {ds : List PyData} {l : List Str}, strsOf ds = some l → ds = l.map .str
  | [], l, h => by cases h; rfl
  | .str z :: r, l, h => by
    obtain ⟨l', e, rfl⟩ := map_some (show (strsOf r).map (z :: ·) = some l from h)
    rw [strsOf_inv e]; rfl
  | .int _ :: _, _, h => by cases h
  | .none :: _, _, h => by cases h
  | .bool _ :: _, _, h => by cases h
  | .list _ :: _, _, h => by cases h
  | .tuple _ :: _, _, h => by cases h
  | .dict _ :: _, _, h => by cases h
theorem strsOf_map : ∀ l : List Str, strsOf (l.map .str) = some l
  | [] => rfl
  | z :: l => by
    show (strsOf (l.map .str)).map (z :: ·) = _
    rw [strsOf_map l]; rfl
def oInF (a b : PyData) : Option PyData := match a, b with
  | .str z, .tuple ds => (strsOf ds).map fun l => .bool (decide (z ∈ l))
  | _, _ => none
theorem oInF_s (z : Str) (l : List Str) : oInF (.str z) (.tuple (l.map .str)) = some (.bool (decide (z ∈ l))) := by
  unfold oInF; simp only []; rw [strsOf_map]; rfl
theorem opf_inF {K : PySem.W.Frag} : OpF K .val (rIn K false) oInF := fun G H d1 d2 d x y Q e r1 r2 h q => by
  unfold oInF at h
  split at h
  · rename_i z ds
    obtain ⟨l, e1, rfl⟩ := map_some h
    rw [strsOf_inv e1] at r2
    obtain ⟨a, vs, rfl, hg, ra⟩ := tup_rep r2
    have := RepA.ofStrs ra
    subst this
    cases r1.str
    refine ⟨a, _, rfl, .inr (.inl (.inl (e _ _ hg))), rfl, flat_strs l, ?_⟩
    rw [if_neg Bool.false_ne_true, inV_strs z l]
    exact q G H _ (Gx.refl e) fun _ => .bl _
  · cases h
theorem clean_s {x : Str} (h : PyData.strOk x = true) : clean 9 (.str x) = true := by simpa [clean] using h
theorem oEq_s {x y : Str} (hx : PyData.strOk x = true) (hy : PyData.strOk y = true) : oEq (.str x) (.str y) = some (.bool (decide (x = y))) := by
  rw [oEq_c (clean_s hx) (clean_s hy), eqv_dec (clean_s hx) (clean_s hy) (x = y) (by simp)]
theorem oNe_s {x y : Str} (hx : PyData.strOk x = true) (hy : PyData.strOk y = true) : oNe (.str x) (.str y) = some (.bool (!decide (x = y))) := by
  rw [oNe_c (clean_s hx) (clean_s hy), eqv_dec (clean_s hx) (clean_s hy) (x = y) (by simp)]
theorem clean_ss {l : List Str} (h : ∀ x ∈ l, PyData.strOk x = true) : clean 9 (.list (l.map .str)) = true := by
  show cleanA 8 _ = true
  induction l with
  | nil => rfl
  | cons x l ih =>
    rw [List.map_cons]
    unfold cleanA
    rw [show clean 8 (.str x) = true by simpa [clean] using h x List.mem_cons_self, Bool.true_and]
    exact ih fun y hy => h y (List.mem_cons_of_mem _ hy)
theorem any_ss {z : Str} : ∀ {l : List Str}, ((l.map PyData.str).any fun y => PyData.eqv y (.str z)) = decide (z ∈ l)
  | [] => rfl
  | x :: l => by
    rw [List.map_cons, List.any_cons, any_ss (l := l)]
    by_cases c : x = z
    · subst c; simp [PyData.eqv]
    · have c2 : ¬ z = x := fun h => c h.symm
      simp [PyData.eqv, c, c2]
theorem oIn_ss {z : Str} {l : List Str} (hz : PyData.strOk z = true) (h : ∀ x ∈ l, PyData.strOk x = true) : oIn (.str z) (.list (l.map .str)) = some (.bool (decide (z ∈ l))) := by
  unfold oIn
  simp only []
  rw [if_pos ⟨clean_shaped (by decide) (clean_s hz), clean_shaped (by decide) (clean_ss h)⟩, any_ss]
end DV

namespace DV
open PySem L2 PySem.Spec PyProof.Rows
open Classical
/-! ### code tables -/
def isTab (x : Str) : WO → Bool
  | .tab y => decide (y = x)
  | _ => false
def hasTab (x : Str) (w : Wd) : Bool := w.any (isTab x)
theorem hasTab_at {x : Str} {w : Wd} (h : hasTab x w = true) : ∃ i : Nat, w[i]? = some (.tab x) := by
  obtain ⟨o, ho, e⟩ := List.any_eq_true.mp h
  obtain ⟨i, hi, z⟩ := List.getElem_of_mem ho
  refine ⟨i, ?_⟩
  rw [List.getElem?_eq_getElem hi, z]
  cases o with
  | tab y => rw [of_decide_eq_true (show decide (y = x) = true from e)]
  | lst l => cases e
  | dK es => cases e
  | ins c fs => cases e
  | gone d => cases e
/-- all(test of a sign for sign in e), any(..) -/
def mAllT (x : Str) (pb : Nat → Bool) (f : ME) : ME := fun ρ w => (f ρ w).bind fun v => match v.1 with
  | .str a => if hasTab x v.2 = true then some (.bool (a.cps.toList.all pb), v.2) else none
  | _ => none
def mAnyT (x : Str) (pb : Nat → Bool) (f : ME) : ME := fun ρ w => (f ρ w).bind fun v => match v.1 with
  | .str a => if hasTab x v.2 = true then some (.bool (a.cps.toList.any pb), v.2) else none
  | _ => none
section
variable {K : PySem.W.Frag} {cl : Str → Addr} {F : Fr} {H0 G H H2 : Hp} {ρ : Rho} {σ : L2.St} {w : Wd} {α : Pl} {x : Str}
theorem Nok.tab (s : Nok K cl F H0 G ρ σ H w α) (h : hasTab x w = true) : GxR.TabG H (cl x) ∧ ∀ H2, GxR.Tabbed (cl x) H H2 → Nok K cl F H0 G ρ σ H2 w α ∧ Nx G H w α G H2 w α := by
  obtain ⟨i, hi⟩ := hasTab_at h
  obtain ⟨e1, ps, e2, t⟩ := s.ww.obj i _ hi
  rw [e1] at e2
  refine ⟨⟨ps, e2, t⟩, fun H2 ⟨⟨ps2, e3, t2⟩, same⟩ => ?_⟩
  have eh : upd H (α.a i) (.tbl ps2) = H2 := by
    funext b
    by_cases z : b = cl x
    · rw [e1, z, upd_same, e3]
    · rw [e1, upd_ne z, same b z]
  have ew : w.set i (.tab x) = w := by
    apply List.ext_getElem?
    intro j
    by_cases z : i = j
    · subst z; rw [List.getElem?_set_self (lt_of hi), hi]
    · rw [List.getElem?_set_ne z]
  have q := s.turn (o' := .tab x) (u := .tbl ps2) hi rfl ⟨e1, ps2, upd_same, t2⟩
  rw [eh, ew] at q
  exact q
end
section
variable {cl : Str → Addr} {X : Cx} {elt iter : Expr} {x : Str} {px p pos gpos : Pos} {scope : Scope} {pb : Nat → Bool} {f : ME} {k : Nat} {c : Addr} {nm : Str}
theorem m_allT (hr : Room k X.A) (hm : X.mg "all" = none) (TB : GxR.TabB X.base X.mg c (cl nm)) (hcode : X.env.code = .ref c) (S : GxR.GenS X.env scope x) (hi : DM cl X .val iter f) (hel : GxR.EltP X.prog X.w scope x elt pb)
    (hg : Gl X "all" := by rfl) (hb : bootBuiltins "all" = some (.builtin "all") := by decide +kernel) (hs : ∀ v, genFold iter X.env v = pure v := by intro _; rfl)
    (he : starEach [.GeneratorExp elt [⟨.Name x px, iter, [], 0⟩] scope gpos] X.env = (false, eval (.GeneratorExp elt [⟨.Name x px, iter, [], 0⟩] scope gpos) X.env) :: starEach [] X.env := by rfl) :
    DM cl X .val (.Call (.Name "all" p) [.GeneratorExp elt [⟨.Name x px, iter, [], 0⟩] scope gpos] [] pos) (mAllT nm pb f) :=
  ⟨(GxR.pe_allS hr hg hm hb TB hcode S hi.pe hel hs he).imp fun σ H Q ⟨F, H0, G, ρ, w, α, d, w', s, e, q⟩ => by
    obtain ⟨⟨d0, w1⟩, e1, e2⟩ := bind_some e
    cases d0 with
    | str a =>
      obtain ⟨ht, e3⟩ := ite_some e2
      cases e3
      refine ⟨F, H0, G, ρ, w, α, _, _, s, e1, fun G' H' α' v n s' r => ?_⟩
      cases (show Rep X.K G' (.str a) v from r.1)
      obtain ⟨t1, t2⟩ := s'.tab ht
      exact ⟨a, rfl, t1, fun H2 hT => q G' H2 α' _ (n.trans (t2 H2 hT).2) (t2 H2 hT).1 (.val (.bl _))⟩
    | _ => cases e2⟩
theorem m_anyT (hr : Room k X.A) (hm : X.mg "any" = none) (TB : GxR.TabB X.base X.mg c (cl nm)) (hcode : X.env.code = .ref c) (S : GxR.GenS X.env scope x) (hi : DM cl X .val iter f) (hel : GxR.EltP X.prog X.w scope x elt pb)
    (hg : Gl X "any" := by rfl) (hs : ∀ v, genFold iter X.env v = pure v := by intro _; rfl)
    (he : starEach [.GeneratorExp elt [⟨.Name x px, iter, [], 0⟩] scope gpos] X.env = (false, eval (.GeneratorExp elt [⟨.Name x px, iter, [], 0⟩] scope gpos) X.env) :: starEach [] X.env := by rfl) :
    DM cl X .val (.Call (.Name "any" p) [.GeneratorExp elt [⟨.Name x px, iter, [], 0⟩] scope gpos] [] pos) (mAnyT nm pb f) :=
  ⟨(GxR.pe_anyS hr hg hm TB hcode S hi.pe hel hs he).imp fun σ H Q ⟨F, H0, G, ρ, w, α, d, w', s, e, q⟩ => by
    obtain ⟨⟨d0, w1⟩, e1, e2⟩ := bind_some e
    cases d0 with
    | str a =>
      obtain ⟨ht, e3⟩ := ite_some e2
      cases e3
      refine ⟨F, H0, G, ρ, w, α, _, _, s, e1, fun G' H' α' v n s' r => ?_⟩
      cases (show Rep X.K G' (.str a) v from r.1)
      obtain ⟨t1, t2⟩ := s'.tab ht
      exact ⟨a, rfl, t1, fun H2 hT => q G' H2 α' _ (n.trans (t2 H2 hT).2) (t2 H2 hT).1 (.val (.bl _))⟩
    | _ => cases e2⟩
end
/-! ### tests of a sign -/
def signRng (lo hi : Str) (c : Nat) : Bool := !decide ([c] < lo.cps.toList) && !decide (hi.cps.toList < [c])
/-- 'lo' <= sign <= 'hi' -/
theorem elt_rng {prog : Program} {w : World} {scope : Scope} {x lo hi : Str} {j1 j2 : Nat} {p1 p2 p3 p4 : Pos} (hk : scope.kind = .function) (hl : scope.names.lookup x = some .local) (hd : (x == ("__debug__" : Str)) = false := by decide) :
    GxR.EltP prog w scope x (.Compare (.Constant (.str lo) j1 p1) [.LtE, .LtE] [.Name x p2, .Constant (.str hi) j2 p3] p4) (signRng lo hi) := by
  intro cenv A' E' c t s₂ m₂ hs hn hm
  refine Compare_chain ?_
  refine Calls.Constant_str ?_
  refine chain_link ?_
  refine wpAny_Name (wpAny_loadName_local (m := m₂) (by rw [hs]; exact hk) (show cenv.scope.names.lookup x = some .local by rw [hs]; exact hl) hn hm ?_) hd
  refine PySem.P.le_str ?_
  refine wpAny_truthy_bool ?_
  by_cases z : [c] < lo.cps.toList
  · rw [if_neg (by simpa using z)]
    refine ⟨?_, GxR.keeps_tok _ _⟩
    show Value.bool (!decide ([c] < lo.cps.toList)) = Value.bool (!decide ([c] < lo.cps.toList) && !decide (hi.cps.toList < [c]))
    rw [decide_eq_true z]
    rfl
  · rw [if_pos (by simpa using z)]
    refine chain_last ?_
    refine Calls.Constant_str ?_
    refine PySem.P.le_str ⟨?_, GxR.keeps_tok _ _⟩
    show Value.bool (!decide (hi.cps.toList < [c])) = Value.bool (!decide ([c] < lo.cps.toList) && !decide (hi.cps.toList < [c]))
    rw [decide_eq_false z]
    rfl
/-! ### a def with its code -/
theorem fn_okWC {P : Program} {w : World} {K : PySem.W.Frag} {mg : Str → Option Value} {base : Heap} {cl : Str → Addr} {x qual : Str} {st : Stmt} {f : Addr} {fd : FuncData} {N ps : List Str} {k n : Nat} {ms : List AK} {rk : RK} {b : MS} {c : Addr} (F : Fun K x qual st f fd) (hc : fd.code = .ref c) (S : FnScope N ps (defScope st))
    (hm : ms.length = ps.length) (hn : N.length = n)
    (body : ∀ (A : Around) (outer : List Env) (s : Shared) (H : Hp) (E : XK), Room k (A.deeper (PyProof.Rows.envOfC qual (defScope st) s.heap.objs.size f (.ref c))) → DBM cl (cxOf CX0 P w K mg base N qual (defScope st) f (.ref c) A outer s H E).nox rk (defBody st) b) :
    FnOk P w K mg base CX0 (k + 1) f fd ps (spW K cl rk ms (runW n rk ms b)) := by
  subst hn
  obtain ⟨oc, od, kV, doc, pm, an, cdv, ct, osl, rfl, lk, hcd⟩ := F.ex
  obtain rfl : cdv = .ref c := hc
  refine fn_of lk hcd S (fun vs H Q E h => h.1.trans hm) fun A outer s H vs Q E hr h => ?_
  obtain ⟨hl, G, w0, α, ds, x0, w', W, ra, hF, q⟩ := h
  refine ⟨_, (body A outer s H E hr).pss.nox, ?_⟩
  have hpl : ps.length ≤ N.length := by have := congrArg List.length S.pre; rw [List.length_take] at this; omega
  obtain ⟨hl2, hF⟩ := ite_some hF
  obtain ⟨⟨o, w2⟩, e1, e2⟩ := bind_some hF
  obtain ⟨x1, e3, e4⟩ := map_some e2
  cases e4
  have dv : ds.length = vs.length := hl2.trans hl.symm
  have pe : putW (hideW H (dom α w0)) (dom α w0) H = H := by
    funext p
    by_cases z : dom α w0 p
    · rw [putW_in z]
    · rw [putW_out z, hideW_out z]
  have hG : Ex G (hideW H (dom α w0)) := fun p o h => by
    have z : ¬ dom α w0 p := fun z => by rw [W.g p z] at h; cases h
    rw [hideW_out z]; exact W.gh p o h
  obtain ⟨l1, so⟩ := slotsW_ok (H0 := H) (H := H) ra
  let Fr0 : Fr := ⟨G, hideW H (dom α w0), fun _ => none, fun _ _ => False⟩
  have WK : WOk K cl Fr0 (hideW H (dom α w0)) G H α w0 := ⟨W.inj, W.obj, W.g, fun p hp => hideW_in hp, fun p hp => hideW_in hp, fun p hp i vs e => by cases e⟩
  have start : Nok K cl Fr0 (hideW H (dom α w0)) G (slotsW ms ds ++ List.replicate (N.length - ds.length) .un) (L2.start N vs) H w0 α := by
    refine ⟨?_, WK⟩
    rw [pe]
    refine ⟨⟨Ex.refl _, Ex.refl _, W.gh, fun p hp => .inl hp⟩, ?_, fun i t ht => ?_, fun i j d1 d2 a hij h1 => ?_, fun i d h1 => ?_, hideW_le, fun i a vs h => (by cases h)⟩
    · unfold L2.start
      rw [List.length_append, List.length_append, List.length_map, List.length_replicate, List.length_replicate, l1, dv]
    · unfold L2.start
      by_cases hi : i < vs.length
      · rw [List.getElem?_append_left (by rw [l1]; exact hi)] at ht
        rw [List.getElem?_append_left (by simpa using hi)]
        exact (so i t ht).1
      · rw [List.getElem?_append_right (by rw [l1]; omega), List.getElem?_replicate] at ht
        split at ht
        · cases ht; exact .un
        · cases ht
    · exfalso
      by_cases hi : i < vs.length
      · rw [List.getElem?_append_left (by rw [l1]; exact hi)] at h1
        exact (so i _ h1).2.1 _ rfl
      · rw [List.getElem?_append_right (by rw [l1]; omega), List.getElem?_replicate] at h1
        split at h1 <;> cases h1
    · exfalso
      by_cases hi : i < vs.length
      · rw [List.getElem?_append_left (by rw [l1]; exact hi)] at h1
        exact (so i _ h1).2.2 _ rfl
      · rw [List.getElem?_append_right (by rw [l1]; omega), List.getElem?_replicate] at h1
        split at h1 <;> cases h1
  refine ⟨Fr0, _, G, _, w0, α, o, w2, start, e1, ?_⟩
  have leave : ∀ {G' H' : Hp} {α' : Pl}, Wx G w0 α G' w2 α' → WOk K cl Fr0 (hideW H (dom α w0)) G' H' α' w2 → Gx G (putW (hideW H (dom α w0)) (dom α' w2) H') G' H' → Bk K cl G H w0 α G' H' w2 α' := fun {G' H' α'} l W' gx =>
    ⟨gx_hide W' gx, l.le, l.n, l.al, ⟨gx.gh, W'.inj, W'.obj, W'.g⟩, W'.h⟩
  cases o with
  | rt d =>
    cases e3
    exact fun G' H' α' v l W' gx r => q G' H' α' v (leave l W' gx) r
  | nx ρ' =>
    cases rk with
    | md m =>
      cases m with
      | val =>
        cases e3
        exact fun G' σ' H' α' l s' => q G' H' α' .non (leave l s'.ww s'.sok.gx) (.val .non)
      | _ => cases e3
    | any =>
      cases e3
      exact fun G' σ' H' α' l s' => q G' H' α' .non (leave l s'.ww s'.sok.gx) (.d .non)
  | bk _ => cases e3
  | ct _ => cases e3
/-! ### the end -/
theorem Nodup_a {cl : Str → Addr} : ∀ {xs : List Str}, (xs.map cl).Nodup → ∀ i j, i < xs.length → j < xs.length → cl (xs[i]?.getD "") = cl (xs[j]?.getD "") → i = j := fun {xs} h i j hi hj e => by
  rw [List.getElem?_eq_getElem hi, List.getElem?_eq_getElem hj] at e
  have e : cl xs[i] = cl xs[j] := e
  exact (List.getElem_inj (xs := xs.map cl) (h₀ := by rw [List.length_map]; exact hi) (h₁ := by rw [List.length_map]; exact hj) h).mp (by rw [List.getElem_map, List.getElem_map, e])
theorem law_spT {K : PySem.W.Frag} {cl : Str → Addr} {H : Hp} {a : Addr} {ns : List Int} {F : MF} {w' : Wd} {xs : List Str} (hS : SqL K H a (ns.map V.int)) (hT : ∀ x ∈ xs, H (cl x) = some (.tbl #[])) (nd : (xs.map cl).Nodup) (h : F [.d (.list (ns.map .int))] (xs.map .tab) = some (.d (.bool true), w')) :
    spW K cl (.md .val) [.md .scr] F [.ref a] H (fun v _ => v = .bl true) fun _ _ _ => False := by
  have at_ : ∀ (i : Nat) (o : WO), (xs.map WO.tab)[i]? = some o → ∃ (hi : i < xs.length), o = .tab xs[i] := fun i o e => by
    rw [List.getElem?_map] at e
    obtain ⟨y, e1, e2⟩ := map_some e
    obtain ⟨hi, e3⟩ := List.getElem?_eq_some_iff.mp e1
    exact ⟨hi, by rw [← e2, e3]⟩
  have get : ∀ (i : Nat) (hi : i < xs.length), cl (xs[i]?.getD "") = cl xs[i] := fun i hi => by rw [List.getElem?_eq_getElem hi]; rfl
  have da : ∀ p, dom (⟨fun i => cl (xs[i]?.getD ""), fun _ => 0⟩ : Pl) (xs.map .tab) p → H p = some (.tbl #[]) := fun p ⟨i, o, e, hg, z⟩ => by
    obtain ⟨hi, rfl⟩ := at_ i o e
    rcases z with z | ⟨z, _⟩
    · rw [z]
      show H (cl (xs[i]?.getD "")) = _
      rw [get i hi]
      exact hT _ (List.getElem_mem hi)
    · cases z
  refine ⟨rfl, fun _ => none, xs.map .tab, ⟨fun i => cl (xs[i]?.getD ""), fun _ => 0⟩, _, _, w', ⟨fun b o z => (by cases (show (none : Option HO) = some o from z)), fun i j o o' e e' _ _ z => ?_, fun i o e => ?_, fun p hp => rfl⟩, ?_, h, fun G' H' α' v _ r => ?_⟩
  · obtain ⟨hi, _⟩ := at_ i o e
    obtain ⟨hj, _⟩ := at_ j o' e'
    exact Nodup_a nd i j hi hj z
  · obtain ⟨hi, rfl⟩ := at_ i o e
    refine ⟨get i hi, #[], ?_, trivial⟩
    show H (cl (xs[i]?.getD "")) = _
    rw [get i hi]
    exact hT _ (List.getElem_mem hi)
  · refine .scr ⟨a, ns, rfl, rfl, ?_⟩ .nil
    refine hS.imp (fun q => ?_) id
    have no : ¬ dom (⟨fun i => cl (xs[i]?.getD ""), fun _ => 0⟩ : Pl) (xs.map .tab) a := fun z => by
      have e := da a z
      rcases q with q | ⟨o, q⟩
      · rw [e] at q; cases q
      · rw [e] at q; cases q
    rcases q with q | ⟨o, q⟩
    · exact .inl (by rw [hideW_out no]; exact q)
    · exact .inr ⟨o, by rw [hideW_out no]; exact q⟩
  · cases (show Rep K G' (.bool true) v from r.1)
    rfl
/-- the end of a law with tables, the top's facts at hand -/
theorem walk_T {l : PySem.W.OpenLaw} {n k : Nat} {q : Program} {loose : List Str} {XP : (Str → Option Value) → Heap → Prop} {YP : World → Heap → Prop} {d : DefRec} {K : Params → PySem.W.Frag} {CX : World → CXT} {x : Str}
    (hn : l.most = some n) (hn2 : n ≤ sizeLine) (hdf : d.params.defaults = []) (hr : Room k callerA) (hY : ∀ (w : World) (h : Heap), YP w h → (K w.params).In h)
    (F : ∀ (w : World) (mg mb : Str → Option Value) (mean : ExcName → Option Value) (lo : List Str) (fa : Addr) (h : Heap), Top q lo mean mg mb h → (K w.params).In h → h.Ns mainGlobals mg → mg d.name = some (.ref fa) → LamX.LawAtS l w (K w.params) (CX w) k n x mg fa h)
    (hCX : ∀ (w : World) (H : Hp) (s : Shared) (e : Value) (s' : Shared), CX w [] H s (fun _ _ _ => False) e s' → False) :
    PySem.W.WalkO q loose XP YP l.row.toRowW d [] (fun f vs => PySem.call f vs) := by
  refine Att.attach_callB hn hdf fun w s₀ s₁ mg mb fa o pm cd doc a vs ns G Y ho hd hcd hmg hobj hints hlen hbits hg => ?_
  have KX := hY w _ Y
  obtain ⟨fd, cs, sp, hT, nT, C, hb, hsp, hF⟩ := F w mg mb _ _ fa _ G.T KX G.T.g hmg
  exact LamX.law_callTs KX G.T.g G.T.b G.T.builtins G.T.nolimit hg hT nT C G.T.bmain hobj hints (Nat.le_trans hlen hn2) hr hF hb (fun H hH hS => hsp H a ns hlen hbits hH hS) fun H e s' => hCX w H s₁ e s'
/-- a def of the top: its code and the table -/
theorem tab_at {q : Program} {lo : List Str} {mean : ExcName → Option Value} {mg mb : Str → Option Value} {h : Heap} {K : PySem.W.Frag} {x : Str} {f c P : Addr} {fd : FuncData} {oc cc : Value} {od dd : Option Addr} {osl sl : Array (Option Value)} {vs : Array Value}
    (T : Top q lo mean mg mb h) (X : K.In h) (hd : (recsOf q).any (fun d => decide (d.name = x)) = true) (hf : mg x = some (.ref f)) (lf : K.lookup f = some ⟨oc, od, .func fd, osl⟩) (hc : fd.code = .ref c)
    (lc : K.lookup c = some ⟨cc, dd, .fields vs, sl⟩) (hv : vs[11]? = some (.ref P)) : PySem.W.CodeHd h c P ∧ h.get? P = some { cls := .none, data := .fields #[] } := by
  obtain ⟨d, hd, hn⟩ := List.any_eq_true.mp hd
  obtain ⟨a, o, fd', c', P', h1, h2, h3, h4, h5, h6⟩ := T.tab d hd
  rw [of_decide_eq_true hn, hf] at h1
  cases h1
  rw [X _ _ lf] at h2
  cases h2
  cases h3
  rw [hc] at h4
  cases h4
  have h7 := h6
  obtain ⟨⟨o2, vs2, g1, g2, g3, g4⟩, g5⟩ := h7
  rw [X _ _ lc] at g1
  cases g1
  cases g3
  rw [hv] at g4
  cases g4
  exact ⟨PySem.W.CodeHd.of h5 h6, g5⟩
end DV

namespace DV
open PySem L2 PySem.Spec PyProof.Rows
/-! ### tuple(x), join, not in a tuple of texts -/
section
variable {K : PySem.W.Frag}
def cTuple : List PyData → Option PyData
  | [.list l] => some (.tuple l)
  | [.tuple l] => some (.tuple l)
  | _ => none
theorem cf_tuple : CallF K .val (fun xs H Q => ∃ p ys, xs = [.ref p] ∧ ((SqL K H p ys ∧ ∀ l, H l = none → Q (.ref l) (upd H l (.tup ys))) ∨ (SqT K H p ys ∧ Q (.ref p) H))) cTuple := fun G H ds d vs Q e r h q => by
  unfold cTuple at h
  split at h
  · cases h
    obtain ⟨v, rfl, r1⟩ := r.one
    obtain ⟨a, us, rfl, h2, ra⟩ := r1.rd e
    exact ⟨a, us, rfl, .inl ⟨.inl h2, fun p np => q _ _ _ (Gx.new e np) fun _ => .tup upd_same (ra.mono (Ex.new (e.back np)))⟩⟩
  · cases h
    obtain ⟨v, rfl, r1⟩ := r.one
    cases r1 with
    | val h =>
      obtain ⟨a, us, rfl, h2, ra⟩ := RepB.seqT (B := H) (.val h)
      exact ⟨a, us, rfl, .inr ⟨h2 H e, q G H _ (Gx.refl e) fun _ => h⟩⟩
  · cases h
@[simp] theorem cTuple_l {l : List PyData} : cTuple [.list l] = some (.tuple l) := rfl
@[simp] theorem cTuple_t {l : List PyData} : cTuple [.tuple l] = some (.tuple l) := rfl
def oJoin (a : PyData) (ds : List PyData) : Option PyData := match a, ds with
  | .str x, [.list l] => (strsOf l).bind fun ys => if (ys.map (·.length)).sum + ys.length * x.length ≤ 16777216 then some (.str (Txt.join x ys)) else none
  | .str x, [.tuple l] => (strsOf l).bind fun ys => if (ys.map (·.length)).sum + ys.length * x.length ≤ 16777216 then some (.str (Txt.join x ys)) else none
  | _, _ => none
theorem oJoin_l {x : Str} {ys : List Str} (h : (ys.map (·.length)).sum + ys.length * x.length ≤ 16777216) : oJoin (.str x) [.list (ys.map .str)] = some (.str (Txt.join x ys)) := by
  unfold oJoin; simp only []; rw [strsOf_map, Option.bind_some, if_pos h]
theorem mtf_join : MtF2 K .val [.bor] (fun x xs H Q => ∃ a p, ∃ ys : List Str, x = .str a ∧ xs = [.ref p] ∧ (SqL K H p (ys.map V.str) ∨ SqT K H p (ys.map V.str)) ∧ (ys.map (·.length)).sum + ys.length * a.length ≤ 16777216 ∧ Q (.str (Txt.join a ys)) H) oJoin := fun G H0 Hs H d1 d ds x xs Q e r1 r2 h q => by
  unfold oJoin at h
  split at h
  · obtain ⟨ys, e1, h⟩ := bind_some h
    obtain ⟨hz, h⟩ := ite_some h
    cases h
    cases r1.str
    obtain ⟨v, rfl, r3⟩ := r2.one
    rw [strsOf_inv e1] at r3
    obtain ⟨a, us, rfl, h2, ra⟩ := RepB.rd e (show RepB K G H _ _ from r3)
    have := RepA.ofStrs ra
    subst this
    exact ⟨_, a, ys, rfl, rfl, .inl (.inl h2), hz, q G H _ (Gx.refl e) fun _ => .str _⟩
  · obtain ⟨ys, e1, h⟩ := bind_some h
    obtain ⟨hz, h⟩ := ite_some h
    cases h
    cases r1.str
    obtain ⟨v, rfl, r3⟩ := r2.one
    rw [strsOf_inv e1] at r3
    obtain ⟨a, us, rfl, h2, ra⟩ := RepB.seqT (show RepB K G H _ _ from r3)
    have := RepA.ofStrs ra
    subst this
    exact ⟨_, a, ys, rfl, rfl, .inr (h2 H e), hz, q G H _ (Gx.refl e) fun _ => .str _⟩
  · cases h
theorem s_join {d1 : PyData} {d2 : List PyData} {d : PyData} (h : oJoin d1 d2 = some d) : ∃ z, d1 = .str z := by
  unfold oJoin at h
  split at h
  · exact ⟨_, rfl⟩
  · exact ⟨_, rfl⟩
  · cases h
def oNotInF (a b : PyData) : Option PyData := match a, b with
  | .str z, .tuple ds => (strsOf ds).map fun l => .bool (!decide (z ∈ l))
  | _, _ => none
theorem oNotInF_s (z : Str) (l : List Str) : oNotInF (.str z) (.tuple (l.map .str)) = some (.bool (!decide (z ∈ l))) := by
  unfold oNotInF; simp only []; rw [strsOf_map]; rfl
theorem opf_notInF : OpF K .val (rIn K true) oNotInF := fun G H d1 d2 d x y Q e r1 r2 h q => by
  unfold oNotInF at h
  split at h
  · rename_i z ds
    obtain ⟨l, e1, rfl⟩ := map_some h
    rw [strsOf_inv e1] at r2
    obtain ⟨a, vs, rfl, hg, ra⟩ := tup_rep r2
    have := RepA.ofStrs ra
    subst this
    cases r1.str
    refine ⟨a, _, rfl, .inr (.inl (.inl (e _ _ hg))), rfl, flat_strs l, ?_⟩
    rw [if_pos rfl, inV_strs z l]
    exact q G H _ (Gx.refl e) fun _ => .bl _
  · cases h
end
theorem tabB_of {base : Heap} {mg : Str → Option Value} {c P : Addr} (t : LamX.TabB base mg c P) : GxR.TabB base mg c P := ⟨t.code, t.bm, t.gP⟩
theorem fn_okWCB {P : Program} {w : World} {K : PySem.W.Frag} {mg : Str → Option Value} {base : Heap} {cl : Str → Addr} {x qual : Str} {st : Stmt} {f : Addr} {fd : FuncData} {N ps : List Str} {k n : Nat} {ms : List AK} {rk : RK} {b : MS} {c : Addr} (F : Fun K x qual st f fd) (hc : fd.code = .ref c) (S : FnScope N ps (defScope st))
    (hm : ms.length = ps.length) (hn : N.length = n)
    (body : ∀ (A : Around) (outer : List Env) (s : Shared) (H : Hp) (E : XK), Room k (A.deeper (PyProof.Rows.envOfC qual (defScope st) s.heap.objs.size f (.ref c))) → DBM cl (cxOf CX0 P w K mg base N qual (defScope st) f (.ref c) A outer s H E).nox rk (defBody st) b) :
    FnOk P w K mg base CX0 (k + 1) f fd ps (spW K cl rk ms (box (runW n rk ms b))) := by
  rw [box_eq]; exact fn_okWC F hc S hm hn body
end DV

namespace Lw
open PySem L2 DV
/-! ### the text -/
def topS (i : Nat) : Stmt := PySem.Challenge.pw_quirekiln_k33_weight_of_a_selector.main.body.getD i (.Pass ⟨0, 0, 0, 0⟩)
abbrev s__law_next : Stmt := topS 13
abbrev N__law_next : List Str := ["state", "many", "cell", "drawn"]
theorem sc__law_next : FnScope N__law_next ["state", "many"] (defScope s__law_next) := ⟨rfl, rfl, rfl, by decide +kernel, rfl, by decide +kernel, by decide +kernel⟩
abbrev s__law_word : Stmt := topS 14
abbrev N__law_word : List Str := ["state", "size", "k"]
theorem sc__law_word : FnScope N__law_word ["state"] (defScope s__law_word) := ⟨rfl, rfl, rfl, by decide +kernel, rfl, by decide +kernel, by decide +kernel⟩
abbrev s__law_step : Stmt := topS 15
abbrev N__law_step : List Str := ["state", "names", "signs", "kind", "name", "found", "k", "more"]
theorem sc__law_step : FnScope N__law_step ["state", "names", "signs"] (defScope s__law_step) := ⟨rfl, rfl, rfl, by decide +kernel, rfl, by decide +kernel, by decide +kernel⟩
abbrev s__law_written : Stmt := topS 17
abbrev N__law_written : List Str := ["steps", "text", "joint", "name", "found", "mark"]
theorem sc__law_written : FnScope N__law_written ["steps"] (defScope s__law_written) := ⟨rfl, rfl, rfl, by decide +kernel, rfl, by decide +kernel, by decide +kernel⟩
abbrev s__law_steps : Stmt := topS 16
abbrev N__law_steps : List Str := ["state", "names", "signs", "steps", "k", "name", "found", "joint"]
theorem sc__law_steps : FnScope N__law_steps ["state", "names", "signs"] (defScope s__law_steps) := ⟨rfl, rfl, rfl, by decide +kernel, rfl, by decide +kernel, by decide +kernel⟩
abbrev s_weight : Stmt := topS 11
abbrev N_weight : List Str := ["steps", "marks", "names", "step"]
theorem sc_weight : FnScope N_weight ["steps"] (defScope s_weight) := ⟨rfl, rfl, rfl, by decide +kernel, rfl, by decide +kernel, by decide +kernel⟩
abbrev s__law_due : Stmt := topS 19
abbrev N__law_due : List Str := ["steps", "many", "names", "joint", "name", "found"]
theorem sc__law_due : FnScope N__law_due ["steps"] (defScope s__law_due) := ⟨rfl, rfl, rfl, by decide +kernel, rfl, by decide +kernel, by decide +kernel⟩
abbrev s__law_is_integer : Stmt := topS 18
abbrev N__law_is_integer : List Str := ["value"]
theorem sc__law_is_integer : FnScope N__law_is_integer ["value"] (defScope s__law_is_integer) := ⟨rfl, rfl, rfl, by decide +kernel, rfl, by decide +kernel, by decide +kernel⟩
abbrev s_is_word : Stmt := topS 1
abbrev N_is_word : List Str := ["value", "char"]
theorem sc_is_word : FnScope N_is_word ["value"] (defScope s_is_word) := ⟨rfl, rfl, rfl, by decide +kernel, rfl, by decide +kernel, by decide +kernel⟩
abbrev s_parse_step : Stmt := topS 8
abbrev N_parse_step : List Str := ["word", "parts", "name", "marks", "index", "mark"]
theorem sc_parse_step : FnScope N_parse_step ["word"] (defScope s_parse_step) := ⟨rfl, rfl, rfl, by decide +kernel, rfl, by decide +kernel, by decide +kernel⟩
abbrev s_parse_words : Stmt := topS 9
abbrev N_parse_words : List Str := ["words", "steps", "joint", "expects_step", "word", "step"]
theorem sc_parse_words : FnScope N_parse_words ["words"] (defScope s_parse_words) := ⟨rfl, rfl, rfl, by decide +kernel, rfl, by decide +kernel, by decide +kernel⟩
abbrev s_parse_selector : Stmt := topS 10
abbrev N_parse_selector : List Str := ["text", "steps"]
theorem sc_parse_selector : FnScope N_parse_selector ["text"] (defScope s_parse_selector) := ⟨rfl, rfl, rfl, by decide +kernel, rfl, by decide +kernel, by decide +kernel⟩
abbrev s_law : Stmt := topS 20
abbrev N_law : List Str := ["script", "state", "names", "kinds", "first", "second", "told", "other", "whole"]
theorem sc_law : FnScope N_law ["script"] (defScope s_law) := ⟨rfl, rfl, rfl, by decide +kernel, rfl, by decide +kernel, by decide +kernel⟩
/-! ### the functions on data -/
noncomputable section
/-- _law_next(state, many): slots 0 state, 1 many, 2 cell, 3 drawn -/
def B__law_next : MS :=
  (mSeq (mIf (mT (mOp oLt (mD (mIx (mR (mVar 0)) (mL (eK (.int 1))))) (mL (eB 1))))
    (mIf (mT (mOp oGt (mLenL (mR (mIx (mR (mVar 0)) (mL (eK (.int 0)))))) (mL (eK (.int 0)))))
      (mSeq (mSet 2 (mD (mMth lPopAt (mR (mIx (mR (mVar 0)) (mL (eK (.int 0))))) (maD (mL (eK (.int 0))) maNil))))
      (mSeq (mPutI (mR (mVar 0)) (mL (eK (.int 1))) (mQ (mL (eIf (bT (eOp oGe (eB 2) (eK (.int 0)))) (eOp oMulS (eK (.int 2)) (eB 2)) (eOp oSub (eOp oMulS (eUn oNeg (eK (.int 2))) (eB 2)) (eK (.int 1)))))))
      (mPutI (mR (mVar 0)) (mL (eK (.int 2))) (mQ (mOp oMod (mF cInt (maD (mOp oAdd (mOp oMulS (mD (mIx (mR (mVar 0)) (mL (eK (.int 2))))) (mL (eK (.int 69621)))) (mD (mIx (mR (mVar 0)) (mL (eK (.int 1)))))) maNil)) (mL (eK (.int 2147483647))))))))
      (mSeq (mPutI (mR (mVar 0)) (mL (eK (.int 2))) (mQ (mOp oMod (mF cInt (maD (mOp oAdd (mOp oMulS (mD (mIx (mR (mVar 0)) (mL (eK (.int 2))))) (mL (eK (.int 48271)))) (mL (eK (.int 11)))) maNil)) (mL (eK (.int 2147483647))))))
      (mPutI (mR (mVar 0)) (mL (eK (.int 1))) (mQ (mOp oMod (mF cInt (maD (mOp oMulS (mD (mIx (mR (mVar 0)) (mL (eK (.int 2))))) (mD (mIx (mR (mVar 0)) (mL (eK (.int 2)))))) maNil)) (mL (eK (.int 1000003))))))))
    mNext)
  (mSeq (mSet 3 (mOp oMod (mF cInt (maD (mD (mIx (mR (mVar 0)) (mL (eK (.int 1))))) maNil)) (mL (eB 1))))
  (mSeq (mPutI (mR (mVar 0)) (mL (eK (.int 1))) (mQ (mOp oFdiv (mD (mIx (mR (mVar 0)) (mL (eK (.int 1))))) (mL (eB 1)))))
  (mRet (mL (eV 3))))))
def F__law_next : MF := box (runW 4 (.md .val) [.q, (.md .bor)] B__law_next)
/-- _law_word(state): slots 0 state, 1 size, 2 k -/
def B__law_word : MS :=
  (mSeq (mSet 1 (mOp oAdd (mL (eK (.int 1))) (mCall F__law_next (maQ (mVar 0) (maD (mL (eK (.int 12))) maNil)))))
  (mSeq (mIf (mT (mOp oEq (mCall F__law_next (maQ (mVar 0) (maD (mL (eK (.int 2))) maNil))) (mL (eK (.int 0)))))
    (mSet 1 (mOp oAdd (mL (eK (.int 1))) (mCall F__law_next (maQ (mVar 0) (maD (mL (eK (.int 3))) maNil)))))
    mNext)
  (mRet (mBm oJoin (mL (eK (.str ""))) (maD (mLc (mArgsI rng1 (maD (mL (eV 1)) maNil)) (gV 2) (mLB bYes) (mOp oIx (mL (eK (.str "abcdefghijklmnopqrstuvwxyz"))) (mCall F__law_next (maQ (mVar 0) (maD (mL (eK (.int 26))) maNil)))) [2]) maNil)))))
def F__law_word : MF := box (runW 3 (.md .val) [.q] B__law_word)
def L__law_step_1 : MS :=
  (mSeq (mSet 7 (mOp oIx (mL (eB 2)) (mCall F__law_next (maQ (mVar 0) (maD (mL (eCall cLen (aCons (eB 2) aNil))) maNil)))))
  (mIf (mLB (bT (eOp oNotIn (eB 7) (eB 5))))
    (mS (sMut fApp 5 (aCons (eV 7) aNil)))
    mNext))
/-- _law_step(state, names, signs): slots 0 state, 1 names, 2 signs, 3 kind, 4 name, 5 found, 6 k, 7 more -/
def B__law_step : MS :=
  (mSeq (mSet 3 (mCall F__law_next (maQ (mVar 0) (maD (mL (eK (.int 5))) maNil))))
  (mSeq (mSet 4 (mOp oIx (mL (eB 1)) (mCall F__law_next (maQ (mVar 0) (maD (mL (eCall cLen (aCons (eB 1) aNil))) maNil)))))
  (mSeq (mIf (mLB (bT (eOp oEq (eB 3) (eK (.int 0)))))
    (mRet (mL (eTup (aCons (eK (.str "*")) (aCons (eTup aNil) aNil)))))
    mNext)
  (mSeq (mIf (mLB (bT (eOp oLt (eB 3) (eK (.int 3)))))
    (mRet (mL (eTup (aCons (eV 4) (aCons (eTup aNil) aNil)))))
    mNext)
  (mSeq (mOwn 5 (mLst (maD (mOp oIx (mL (eB 2)) (mCall F__law_next (maQ (mVar 0) (maD (mL (eCall cLen (aCons (eB 2) aNil))) maNil)))) maNil)))
  (mSeq (mFor (mArgsI rng1 (maD (mOp oIx (mL (eLst (aCons (eK (.int 0)) (aCons (eK (.int 0)) (aCons (eK (.int 1)) (aCons (eK (.int 9)) aNil)))))) (mCall F__law_next (maQ (mVar 0) (maD (mL (eK (.int 4))) maNil)))) maNil)) (gV 6) L__law_step_1)
  (mSeq (mIf (mLB (bT (eOp oEq (eB 3) (eK (.int 3)))))
    (mS (sSet 4 (eK (.str ""))))
    mNext)
  (mRet (mL (eTup (aCons (eV 4) (aCons (eCall cTuple (aCons (eB 5) aNil)) aNil))))))))))))
def F__law_step : MF := box (runW 8 (.md .val) [.q, (.md .bor), (.md .bor)] B__law_step)
def L__law_written_1 : SS :=
  (sSet 1 (eOp oAdd (eOp oAdd (eB 1) (eK (.str "."))) (eB 5)))
def L__law_written_2 : SS :=
  (sSeqn (sSet 1 (eOp oAdd (eOp oAdd (eB 1) (eOp oDGet (eDsp [((eK (.str "")), (eK (.str ""))), ((eK (.str " ")), (eK (.str " "))), ((eK (.str ">")), (eK (.str " > ")))]) (eB 2))) (eB 3)))
  (sFor (sSeq (eV 4)) (gV 5) L__law_written_1))
/-- _law_written(steps): slots 0 steps, 1 text, 2 joint, 3 name, 4 found, 5 mark -/
def B__law_written : SS :=
  (sSeqn (sSet 1 (eK (.str "")))
  (sSeqn (sFor (sSeq (eP 0)) (gT 3 (gsCons (gV 2) (gsCons (gV 3) (gsCons (gV 4) gsNil)))) L__law_written_2)
  (sRet (eV 1))))
def F__law_written : List PyData → Option PyData := box (runF 6 .val [.bor] B__law_written)
def L__law_steps_1 : MS :=
  (mSeq (mAsg (mCall F__law_step (maQ (mVar 0) (maD (mL (eB 1)) (maD (mL (eB 2)) maNil)))) (gT 2 (gsCons (gV 5) (gsCons (gV 6) gsNil))))
  (mSeq (mS (sSet 7 (eK (.str ""))))
  (mSeq (mIf (mLB (bT (eOp oGt (eB 4) (eK (.int 0)))))
    (mSet 7 (mOp oIx (mL (eLst (aCons (eK (.str " ")) (aCons (eK (.str ">")) aNil)))) (mCall F__law_next (maQ (mVar 0) (maD (mL (eK (.int 2))) maNil)))))
    mNext)
  (mIf (mLB (bT (eOp oLe (eCall cLen (aCons (eCall F__law_written (aCons (eOp oAdd (eB 3) (eLst (aCons (eTup (aCons (eV 7) (aCons (eV 5) (aCons (eV 6) aNil)))) aNil))) aNil)) aNil)) (eK (.int 100)))))
    (mS (sMut fApp 3 (aCons (eTup (aCons (eV 7) (aCons (eV 5) (aCons (eV 6) aNil)))) aNil)))
    mNext))))
/-- _law_steps(state, names, signs): slots 0 state, 1 names, 2 signs, 3 steps, 4 k, 5 name, 6 found, 7 joint -/
def B__law_steps : MS :=
  (mSeq (mS (sOwn 3 (eLst aNil)))
  (mSeq (mFor (mArgsI rng1 (maD (mOp oAdd (mL (eK (.int 1))) (mCall F__law_next (maQ (mVar 0) (maD (mL (eK (.int 4))) maNil)))) maNil)) (gV 4) L__law_steps_1)
  (mRetOwn 3)))
def F__law_steps : MF := box (runW 8 (.md .new) [.q, (.md .bor), (.md .bor)] B__law_steps)
/-- weight(steps): slots 0 steps, 1 marks, 2 names, 3 step -/
def B_weight : SS :=
  (sSeqn (sSet 1 (eCall cSum (aCons (eLc (sSeq (eB 0)) (gV 3) bYes (eCall cLen (aCons (eOp oIx (eB 3) (eK (.int 2))) aNil)) [3]) aNil)))
  (sSeqn (sSet 2 (eCall cSum (aCons (eLc (sSeq (eB 0)) (gV 3) (bT (eOp oNotInF (eOp oIx (eB 3) (eK (.int 1))) (eTup (aCons (eK (.str "*")) (aCons (eK (.str "")) aNil))))) (eK (.int 1)) [3]) aNil)))
  (sRet (eTup (aCons (eV 1) (aCons (eV 2) aNil))))))
def F_weight : List PyData → Option PyData := box (runF 4 .val [.bor] B_weight)
def L__law_due_1 : SS :=
  (sSeqn (sSet 1 (eOp oAdd (eB 1) (eCall cLen (aCons (eB 5) aNil))))
  (sIf (bAnd (bT (eOp oNe (eB 4) (eK (.str "")))) (bT (eOp oNe (eB 4) (eK (.str "*")))))
    (sSet 2 (eOp oAdd (eB 2) (eK (.int 1))))
    sNext))
/-- _law_due(steps): slots 0 steps, 1 many, 2 names, 3 joint, 4 name, 5 found -/
def B__law_due : SS :=
  (sSeqn (sSet 1 (eK (.int 0)))
  (sSeqn (sSet 2 (eK (.int 0)))
  (sSeqn (sFor (sSeq (eP 0)) (gT 3 (gsCons (gV 3) (gsCons (gV 4) (gsCons (gV 5) gsNil)))) L__law_due_1)
  (sRet (eTup (aCons (eV 1) (aCons (eV 2) aNil)))))))
def F__law_due : List PyData → Option PyData := box (runF 6 .val [.bor] B__law_due)
/-- _law_is_integer(value): slots 0 value -/
def B__law_is_integer : SS :=
  (sRet (eAnd (eIs "int" (eB 0)) (eNot (eIs "bool" (eB 0)))))
def F__law_is_integer : List PyData → Option PyData := box (runF 1 .val [.bor] B__law_is_integer)
/-- is_word(value): slots 0 value, 1 char -/
def B_is_word : MS :=
  (mSeq (mIf (mLB (bOr (bNot (bV (eIs "str" (eB 0)))) (bNot (bT (eChain oLe oLe (eK (.int 1)) (eCall cLen (aCons (eB 0) aNil)) (eK (.int 12)))))))
    (mRet (mL (eK (.bool false))))
    mNext)
  (mRet (mAllT "is_word" (signRng "a" "z") (mL (eV 0)))))
def F_is_word : MF := box (runW 2 (.md .val) [(.md .val)] B_is_word)
def L_parse_step_1 : MS :=
  (mIf (mOrB (mNot (mV (mCall F_is_word (maD (mL (eV 5)) maNil)))) (mLB (bT (eOp oIn (eB 5) (eSl oSl (eB 3) oNo (oSo (eV 4)))))))
    (mRet (mL (eK (.none))))
    mNext)
/-- parse_step(word): slots 0 word, 1 parts, 2 name, 3 marks, 4 index, 5 mark -/
def B_parse_step : MS :=
  (mSeq (mIf (mLB (bT (eOp oEq (eB 0) (eK (.str "*")))))
    (mRet (mL (eTup (aCons (eK (.str "*")) (aCons (eTup aNil) aNil)))))
    mNext)
  (mSeq (mS (sSet 1 (eOp oSplit (eB 0) (eK (.str ".")))))
  (mSeq (mS (sSet 2 (eOp oIx (eB 1) (eK (.int 0)))))
  (mSeq (mS (sSet 3 (eSl oSl (eB 1) (oSo (eK (.int 1))) oNo)))
  (mSeq (mIf (mAndB (mLB (bT (eOp oNe (eB 2) (eK (.str ""))))) (mNot (mV (mCall F_is_word (maD (mL (eV 2)) maNil)))))
    (mRet (mL (eK (.none))))
    mNext)
  (mSeq (mIf (mLB (bAnd (bT (eOp oEq (eB 2) (eK (.str "")))) (bNot (bV (eB 3)))))
    (mRet (mL (eK (.none))))
    mNext)
  (mSeq (mFor (mArgsI enumI (maD (mL (eV 3)) maNil)) (gT 2 (gsCons (gV 4) (gsCons (gV 5) gsNil))) L_parse_step_1)
  (mRet (mL (eTup (aCons (eV 2) (aCons (eCall cTuple (aCons (eB 3) aNil)) aNil))))))))))))
def F_parse_step : MF := box (runW 6 (.md .val) [(.md .bor)] B_parse_step)
def L_parse_words_1 : MS :=
  (mSeq (mIf (mLB (bAnd (bT (eOp oEq (eB 4) (eK (.str ">")))) (bNot (bV (eB 3)))))
    (mSeq (mS (sSet 2 (eK (.str ">"))))
    (mSeq (mS (sSet 3 (eK (.bool true))))
    (mS sCnt)))
    mNext)
  (mSeq (mIf (mLB (bNot (bV (eB 3))))
    (mS (sSet 2 (eK (.str " "))))
    mNext)
  (mSeq (mSet 5 (mCall F_parse_step (maD (mL (eB 4)) maNil)))
  (mSeq (mIf (mLB (bT (eOp oIsN (eB 5) (eK (.none)))))
    (mRet (mL (eK (.none))))
    mNext)
  (mSeq (mS (sMut fApp 1 (aCons (eTup (aCons (eV 2) (aCons (eOp oIx (eB 5) (eK (.int 0))) (aCons (eOp oIx (eB 5) (eK (.int 1))) aNil)))) aNil)))
  (mS (sSet 3 (eK (.bool false)))))))))
/-- parse_words(words): slots 0 words, 1 steps, 2 joint, 3 expects_step, 4 word, 5 step -/
def B_parse_words : MS :=
  (mSeq (mS (sOwn 1 (eLst aNil)))
  (mSeq (mS (sSet 2 (eK (.str ""))))
  (mSeq (mS (sSet 3 (eK (.bool true))))
  (mSeq (mFor (mSeqI (mPar 0)) (gV 4) L_parse_words_1)
  (mFz 1 (mRet (mL (eIf (bV (eB 3)) (eK (.none)) (eV 1)))))))))
def F_parse_words : MF := box (runW 6 (.md .val) [(.md .bor)] B_parse_words)
/-- parse_selector(text): slots 0 text, 1 steps -/
def B_parse_selector : MS :=
  (mSeq (mIf (mLB (bOr (bNot (bV (eIs "str" (eB 0)))) (bT (eOp oGt (eCall cLen (aCons (eB 0) aNil)) (eK (.int 100))))))
    mDead
    mNext)
  (mSeq (mSet 1 (mCall F_parse_words (maD (mL (eOp oSplit (eB 0) (eK (.str " ")))) maNil)))
  (mSeq (mIf (mLB (bOr (bT (eOp oIsN (eB 1) (eK (.none)))) (bT (eOp oGt (eCall cLen (aCons (eB 1) aNil)) (eK (.int 4))))))
    mDead
    mNext)
  (mRet (mL (eCall cTuple (aCons (eB 1) aNil)))))))
def F_parse_selector : MF := box (runW 2 (.md .val) [(.md .bor)] B_parse_selector)
/-- law(script): slots 0 script, 1 state, 2 names, 3 kinds, 4 first, 5 second, 6 told, 7 other, 8 whole -/
def B_law : MS :=
  (mSeq (mAny 1 (mQR (mNewL (maQ (mQR (mMk (mL (eCall cList (aCons (eS 0) aNil))))) (maQ (mQ (mL (eK (.int 0)))) (maQ (mQ (mL (eK (.int 1)))) maNil))))))
  (mSeq (mSet 2 (mLst (maD (mCall F__law_word (maQ (mVar 1) maNil)) (maD (mL (eK (.str "a"))) (maD (mL (eK (.str "page"))) maNil)))))
  (mSeq (mSet 3 (mLst (maD (mCall F__law_word (maQ (mVar 1) maNil)) (maD (mL (eK (.str "x"))) (maD (mL (eK (.str "yy"))) (maD (mL (eK (.str "b"))) (maD (mL (eK (.str "cc"))) (maD (mL (eK (.str "d"))) (maD (mL (eK (.str "e"))) (maD (mL (eK (.str "f"))) maNil))))))))))
  (mSeq (mSet 4 (mCall F__law_steps (maQ (mVar 1) (maD (mL (eB 2)) (maD (mL (eB 3)) maNil)))))
  (mSeq (mSet 5 (mCall F__law_steps (maQ (mVar 1) (maD (mL (eB 2)) (maD (mL (eB 3)) maNil)))))
  (mSeq (mS (sSet 6 (eCall F_weight (aCons (eCall cTuple (aCons (eB 4) aNil)) aNil))))
  (mSeq (mIf (mLB (bOr (bNot (bV (eIs "tuple" (eB 6)))) (bOr (bT (eOp oNe (eCall cLen (aCons (eB 6) aNil)) (eK (.int 2)))) (bT (eOp oNe (eB 6) (eCall F__law_due (aCons (eB 4) aNil)))))))
    (mRet (mL (eK (.bool false))))
    mNext)
  (mSeq (mIf (mLB (bOr (bNot (bV (eCall F__law_is_integer (aCons (eOp oIx (eB 6) (eK (.int 0))) aNil)))) (bNot (bV (eCall F__law_is_integer (aCons (eOp oIx (eB 6) (eK (.int 1))) aNil))))))
    (mRet (mL (eK (.bool false))))
    mNext)
  (mSeq (mIf (mT (mOp oNe (mF F_weight (maD (mCall F_parse_selector (maD (mL (eCall F__law_written (aCons (eB 4) aNil))) maNil)) maNil)) (mL (eB 6))))
    (mRet (mL (eK (.bool false))))
    mNext)
  (mSeq (mS (sSet 7 (eCall F_weight (aCons (eCall cTuple (aCons (eB 5) aNil)) aNil))))
  (mSeq (mS (sSet 8 (eOp oAdd (eOp oAdd (eB 4) (eLst (aCons (eTup (aCons (eK (.str " ")) (aCons (eOp oIx (eOp oIx (eB 5) (eK (.int 0))) (eK (.int 1))) (aCons (eOp oIx (eOp oIx (eB 5) (eK (.int 0))) (eK (.int 2))) aNil)))) aNil))) (eSl oSl (eB 5) (oSo (eK (.int 1))) oNo))))
  (mSeq (mIf (mLB (bOr (bT (eOp oGt (eCall cLen (aCons (eB 8) aNil)) (eK (.int 4)))) (bT (eOp oGt (eCall cLen (aCons (eCall F__law_written (aCons (eB 8) aNil)) aNil)) (eK (.int 100))))))
    (mRet (mL (eOp oEq (eB 7) (eCall F__law_due (aCons (eB 5) aNil)))))
    mNext)
  (mRet (mL (eOp oEq (eCall F_weight (aCons (eCall cTuple (aCons (eB 8) aNil)) aNil)) (eTup (aCons (eOp oAdd (eOp oIx (eB 6) (eK (.int 0))) (eOp oIx (eB 7) (eK (.int 0)))) (aCons (eOp oAdd (eOp oIx (eB 6) (eK (.int 1))) (eOp oIx (eB 7) (eK (.int 1)))) aNil))))))))))))))))))
def F_law : MF := box (runW 9 (.md .val) [(.md .scr)] B_law)
end
/-! ### the walks -/
section
variable {P : Program} {w : World} {K : PySem.W.Frag} {mg : Str → Option Value} {base : Heap} {cl : Str → Addr}
theorem ok__law_next {f : Addr} {fd : FuncData} (F : Fun K "_law_next" "_law_next" s__law_next f fd) (z_int : mg "int" = none) (z_len : mg "len" = none) :
    FnOk P w K mg base CX0 1 f fd ["state", "many"] (spW K cl (.md .val) [.q, (.md .bor)] F__law_next) :=
  fn_okWB (b := B__law_next) F sc__law_next rfl rfl (fun cdv A outer s H E hr =>
    (mb_cons (ms_if (mt_cmpB op_lt (opf_cmpI _) (mb_v (m_q (q_ix (r_q (q_var 0)) (m_l d_int)))) (mb_var 1) (nomark _))
      (mb_one (ms_if (mt_cmpB op_gt (opf_cmpI _) (mb_v (m_lenL (r_q (q_ix (r_q (q_var 0)) (m_l d_int))) z_len)) (mb_v (m_l d_int)) (nomark _))
        (mb_cons (ms_set 2 sc__law_next.nd (m_q (q_popAt (r_q (q_ix (r_q (q_var 0)) (m_l d_int))) (m_l d_int))))
        (mb_cons (ms_putI (q_m (m_l (d_if (t_cmp op_ge (opf_cmpI _) (d_varb 2) (d_b d_int) (nomark _)) (d_op op_mulAll opf_mulAll (d_b d_int) (d_varb 2)) (d_op op_sub opf_sub (d_b (d_op op_mulAll opf_mulAll (d_b (d_un un_neg unf_neg (d_b d_int))) (d_varb 2))) (d_b d_int))))) (r_q (q_var 0)) (m_l d_int))
        (mb_one (ms_putI (q_m (m_opB op_mod (opf_intIf _ _) (mb_v (m_callTy call_int1 cf_int (av_cons av_nil) (by rfl) z_int PyProof.Rows.boot_int (ma_val (m_opB op_addAll opf_addAll (mb_v (m_opB op_mulAll opf_mulAll (mb_v (m_q (q_ix (r_q (q_var 0)) (m_l d_int)))) (mb_v (m_l d_int)))) (mb_v (m_q (q_ix (r_q (q_var 0)) (m_l d_int))))) ma_nil))) (mb_v (m_l d_int)))) (r_q (q_var 0)) (m_l d_int)))))
        (mb_cons (ms_putI (q_m (m_opB op_mod (opf_intIf _ _) (mb_v (m_callTy call_int1 cf_int (av_cons av_nil) (by rfl) z_int PyProof.Rows.boot_int (ma_val (m_opB op_addAll opf_addAll (mb_v (m_opB op_mulAll opf_mulAll (mb_v (m_q (q_ix (r_q (q_var 0)) (m_l d_int)))) (mb_v (m_l d_int)))) (mb_v (m_l d_int))) ma_nil))) (mb_v (m_l d_int)))) (r_q (q_var 0)) (m_l d_int))
        (mb_one (ms_putI (q_m (m_opB op_mod (opf_intIf _ _) (mb_v (m_callTy call_int1 cf_int (av_cons av_nil) (by rfl) z_int PyProof.Rows.boot_int (ma_val (m_opB op_mulAll opf_mulAll (mb_v (m_q (q_ix (r_q (q_var 0)) (m_l d_int)))) (mb_v (m_q (q_ix (r_q (q_var 0)) (m_l d_int))))) ma_nil))) (mb_v (m_l d_int)))) (r_q (q_var 0)) (m_l d_int))))))
      mb_nil)
    (mb_cons (ms_set 3 sc__law_next.nd (m_opB op_mod (opf_intIf _ _) (mb_v (m_callTy call_int1 cf_int (av_cons av_nil) (by rfl) z_int PyProof.Rows.boot_int (ma_val (m_q (q_ix (r_q (q_var 0)) (m_l d_int))) ma_nil))) (mb_var 1)))
    (mb_cons (ms_putI (q_m (m_opB op_fdivW opf_fdiv (mb_v (m_q (q_ix (r_q (q_var 0)) (m_l d_int)))) (mb_var 1))) (r_q (q_var 0)) (m_l d_int))
    (mb_one (ms_ret (m_l (d_var 3))))))))
theorem ok__law_word {f : Addr} {fd : FuncData} (F : Fun K "_law_word" "_law_word" s__law_word f fd) (C__law_next : Fn1W P w K mg base cl "_law_next" ["state", "many"] 1 (.md .val) [.q, (.md .bor)] F__law_next) (z_range : mg "range" = none) :
    FnOk P w K mg base CX0 2 f fd ["state"] (spW K cl (.md .val) [.q] F__law_word) :=
  fn_okWB (b := B__law_word) F sc__law_word rfl rfl (fun cdv A outer s H E hr =>
    (mb_cons (ms_set 1 sc__law_word.nd (m_opB op_addAll opf_addAll (mb_v (m_l d_int)) (mb_v (m_fn C__law_next (hr.mono (by decide)) (ma_q (q_var 0) (ma_valb (m_l d_int) ma_nil))))))
    (mb_cons (ms_if (mt_cmpB (op_eqD hr.units) opf_eq (mb_v (m_fn C__law_next (hr.mono (by decide)) (ma_q (q_var 0) (ma_valb (m_l d_int) ma_nil)))) (mb_v (m_l d_int)) (nomark _))
      (mb_one (ms_set 1 sc__law_word.nd (m_opB op_addAll opf_addAll (mb_v (m_l d_int)) (mb_v (m_fn C__law_next (hr.mono (by decide)) (ma_q (q_var 0) (ma_valb (m_l d_int) ma_nil)))))))
      mb_nil)
    (mb_one (ms_ret (m_bm PySem.F.slot_str_join PySem.F.type_str_join mt_join mtf_join (fun _ _ _ => s_join) (mb_v (m_l d_str)) (ma_val (m_fz (m_lc rfl sc__law_word.nd rfl (im_range1 (by rfl) z_range (ma_val (m_l (d_var 1)) ma_nil)) (blkOk_by (N := N__law_word) (sc := defScope s__law_word) (own := [("k", 2)]) (by decide +kernel)) (fun _ _ _ _ _ => (gw_name 2 sc__law_word.nd)) (fun _ _ _ _ _ => (mts_l ts_nil)) (fun _ _ _ _ _ => (m_ixB (mb_v (m_l d_str)) (mb_v (m_fn C__law_next (hr.mono (by decide)) (ma_q (q_var 0) (ma_valb (m_l d_int) ma_nil)))))))) ma_nil) (av_cons av_nil) (ab_bor ab_nil)))))))
theorem ok__law_step {f : Addr} {fd : FuncData} (F : Fun K "_law_step" "_law_step" s__law_step f fd) (C__law_next : Fn1W P w K mg base cl "_law_next" ["state", "many"] 1 (.md .val) [.q, (.md .bor)] F__law_next) (z_len : mg "len" = none) (z_range : mg "range" = none) (z_tuple : mg "tuple" = none) :
    FnOk P w K mg base CX0 2 f fd ["state", "names", "signs"] (spW K cl (.md .val) [.q, (.md .bor), (.md .bor)] F__law_step) :=
  fn_okWB (b := B__law_step) F sc__law_step rfl rfl (fun cdv A outer s H E hr =>
    (mb_cons (ms_set 3 sc__law_step.nd (m_fn C__law_next (hr.mono (by decide)) (ma_q (q_var 0) (ma_valb (m_l d_int) ma_nil))))
    (mb_cons (ms_set 4 sc__law_step.nd (m_ixB (mb_var 1) (mb_v (m_fn C__law_next (hr.mono (by decide)) (ma_q (q_var 0) (ma_valb (m_l (d_callB call_len cf_len bor1 (by rfl) z_len PySem.boot_len (a_cons (d_varb 1) a_nil))) ma_nil))))))
    (mb_cons (ms_if (mt_l (t_cmp (op_eqD hr.units) opf_eq (d_varb 3) (d_b d_int) (nomark _)))
      (mb_one (ms_ret (m_l (d_tup (a_cons d_str (a_cons (d_tup a_nil v_nil) a_nil)) (v_cons (v_cons v_nil))))))
      mb_nil)
    (mb_cons (ms_if (mt_l (t_cmp op_lt (opf_cmpI _) (d_varb 3) (d_b d_int) (nomark _)))
      (mb_one (ms_ret (m_l (d_tup (a_cons (d_var 4) (a_cons (d_tup a_nil v_nil) a_nil)) (v_cons (v_cons v_nil))))))
      mb_nil)
    (mb_cons (ms_own 5 sc__law_step.nd (m_lst (ma_val (m_ixB (mb_var 2) (mb_v (m_fn C__law_next (hr.mono (by decide)) (ma_q (q_var 0) (ma_valb (m_l (d_callB call_len cf_len bor1 (by rfl) z_len PySem.boot_len (a_cons (d_varb 2) a_nil))) ma_nil))))) ma_nil) (av_cons av_nil)))
    (mb_cons (ms_for PassesOwn.never rfl (im_range1 (by rfl) z_range (ma_val (m_ixB (mb_v (m_l (d_fz (d_lst (a_cons d_int (a_cons d_int (a_cons d_int (a_cons d_int a_nil)))) (v_cons (v_cons (v_cons (v_cons v_nil)))))))) (mb_v (m_fn C__law_next (hr.mono (by decide)) (ma_q (q_var 0) (ma_valb (m_l d_int) ma_nil))))) ma_nil)) (g_name 6 sc__law_step.nd)
      (mb_cons (ms_set 7 sc__law_step.nd (m_ixB (mb_var 2) (mb_v (m_fn C__law_next (hr.mono (by decide)) (ma_q (q_var 0) (ma_valb (m_l (d_callB call_len cf_len bor1 (by rfl) z_len PySem.boot_len (a_cons (d_varb 2) a_nil))) ma_nil))))))
      (mb_one (ms_if (mt_l (t_cmp (op_notInA (units65 hr)) opf_notIn (d_varb 7) (d_varb 5) (by with_unfolding_all rfl)))
        (mb_one (ms_l (s_app 5 (d_var 7))))
        mb_nil))))
    (mb_cons (ms_if (mt_l (t_cmp (op_eqD hr.units) opf_eq (d_varb 3) (d_b d_int) (nomark _)))
      (mb_one (ms_l (s_set 4 sc__law_step.nd d_str)))
      mb_nil)
    (mb_one (ms_ret (m_l (d_tup (a_cons (d_var 4) (a_cons (d_callTy call_tuple_of cf_tuple bor1 (by rfl) z_tuple (by decide +kernel) (a_cons (d_varb 5) a_nil)) a_nil)) (v_cons (v_cons v_nil))))))))))))))
theorem ok__law_written {f : Addr} {fd : FuncData} (F : Fun K "_law_written" "_law_written" s__law_written f fd) :
    FnOk P w K mg base CX0 1 f fd ["steps"] (spD K .val [.bor] F__law_written) :=
  fn_okB (b := B__law_written) F sc__law_written rfl rfl (am_bor am_nil) (fun cdv A outer s H E hr =>
    (b_cons (s_set 1 sc__law_written.nd d_str)
    (b_cons (s_for PassesOwn.never rfl (i_par (d_varp 0)) (g_tup rfl (gs_cons (g_name 2 sc__law_written.nd) (gs_cons (g_name 3 sc__law_written.nd) (gs_cons (g_name 4 sc__law_written.nd) gs_nil))))
      (b_cons (s_set 1 sc__law_written.nd (d_op op_addAll opf_addAll (d_b (d_op op_addAll opf_addAll (d_varb 1) (d_b (d_dget hr (d_b (d_dsp (dp_cons d_str d_str (dp_cons d_str d_str (dp_cons d_str d_str dp_nil))))) (d_varb 2))))) (d_varb 3)))
      (b_one (s_for PassesOwn.never rfl (i_val (d_var 4)) (g_name 5 sc__law_written.nd)
        (b_one (s_set 1 sc__law_written.nd (d_op op_addAll opf_addAll (d_b (d_op op_addAll opf_addAll (d_varb 1) (d_b d_str))) (d_varb 5))))))))
    (b_one (s_ret (d_var 1))))))
theorem ok__law_steps {f : Addr} {fd : FuncData} (F : Fun K "_law_steps" "_law_steps" s__law_steps f fd) (C__law_next : Fn1W P w K mg base cl "_law_next" ["state", "many"] 1 (.md .val) [.q, (.md .bor)] F__law_next) (C__law_step : Fn1W P w K mg base cl "_law_step" ["state", "names", "signs"] 2 (.md .val) [.q, (.md .bor), (.md .bor)] F__law_step) (C__law_written : Fn1 P w K mg base "_law_written" ["steps"] 1 .val [.bor] F__law_written) (z_len : mg "len" = none) (z_range : mg "range" = none) :
    FnOk P w K mg base CX0 3 f fd ["state", "names", "signs"] (spW K cl (.md .new) [.q, (.md .bor), (.md .bor)] F__law_steps) :=
  fn_okWB (b := B__law_steps) F sc__law_steps rfl rfl (fun cdv A outer s H E hr =>
    (mb_cons (ms_l (s_own 3 sc__law_steps.nd (d_lst a_nil v_nil)))
    (mb_cons (ms_for PassesOwn.never rfl (im_range1 (by rfl) z_range (ma_val (m_opB op_addAll opf_addAll (mb_v (m_l d_int)) (mb_v (m_fn C__law_next (hr.mono (by decide)) (ma_q (q_var 0) (ma_valb (m_l d_int) ma_nil))))) ma_nil)) (g_name 4 sc__law_steps.nd)
      (mb_cons (ms_asg (m_fn C__law_step (hr.mono (by decide)) (ma_q (q_var 0) (ma_bor 1 (ma_bor 2 ma_nil)))) (g_tup rfl (gs_cons (g_name 5 sc__law_steps.nd) (gs_cons (g_name 6 sc__law_steps.nd) gs_nil))))
      (mb_cons (ms_l (s_set 7 sc__law_steps.nd d_str))
      (mb_cons (ms_if (mt_l (t_cmp op_gt (opf_cmpI _) (d_varb 4) (d_b d_int) (nomark _)))
        (mb_one (ms_set 7 sc__law_steps.nd (m_ixB (mb_v (m_l (d_fz (d_lst (a_cons d_str (a_cons d_str a_nil)) (v_cons (v_cons v_nil)))))) (mb_v (m_fn C__law_next (hr.mono (by decide)) (ma_q (q_var 0) (ma_valb (m_l d_int) ma_nil)))))))
        mb_nil)
      (mb_one (ms_if (mt_l (t_cmp op_le (opf_cmpI _) (d_b (d_callB call_len cf_len bor1 (by rfl) z_len PySem.boot_len (a_cons (d_b (d_fn C__law_written (hr.mono (by decide)) (a_cons (d_b (d_op op_addAll opf_addAll (d_varb 3) (d_b (d_lst (a_cons (d_tup (a_cons (d_var 7) (a_cons (d_var 5) (a_cons (d_var 6) a_nil))) (v_cons (v_cons (v_cons v_nil)))) a_nil) (v_cons v_nil))))) a_nil) (am_bor am_nil))) a_nil))) (d_b d_int) (nomark _)))
        (mb_one (ms_l (s_app 3 (d_tup (a_cons (d_var 7) (a_cons (d_var 5) (a_cons (d_var 6) a_nil))) (v_cons (v_cons (v_cons v_nil)))))))
        mb_nil))))))
    (mb_one (ms_retOwn 3)))))
theorem ok_weight {f : Addr} {fd : FuncData} (F : Fun K "weight" "weight" s_weight f fd) (z_len : mg "len" = none) (z_sum : mg "sum" = none) :
    FnOk P w K mg base CX0 1 f fd ["steps"] (spD K .val [.bor] F_weight) :=
  fn_okB (b := B_weight) F sc_weight rfl rfl (am_bor am_nil) (fun cdv A outer s H E hr =>
    (b_cons (s_set 1 sc_weight.nd (d_callB (cr_sum rfl) cf_sum bor1 (by rfl) z_sum PyProof.Rows.boot_sum (a_cons (d_b (d_lc rfl sc_weight.nd rfl (i_bor (d_varb 0)) (blkOk_by (N := N_weight) (sc := defScope s_weight) (own := [("step", 3)]) (by decide +kernel)) (fun _ _ _ _ _ => (gw_name 3 sc_weight.nd)) (fun _ _ _ _ _ => ts_nil) (fun _ _ _ _ _ => (d_callB call_len cf_len bor1 (by rfl) z_len PySem.boot_len (a_cons (d_b (d_ix (d_varb 3) (d_b d_int))) a_nil))))) a_nil)))
    (b_cons (s_set 2 sc_weight.nd (d_callB (cr_sum rfl) cf_sum bor1 (by rfl) z_sum PyProof.Rows.boot_sum (a_cons (d_b (d_lc rfl sc_weight.nd rfl (i_bor (d_varb 0)) (blkOk_by (N := N_weight) (sc := defScope s_weight) (own := [("step", 3)]) (by decide +kernel)) (fun _ _ _ _ _ => (gw_name 3 sc_weight.nd)) (fun _ _ _ _ _ => (ts_one (t_cmp op_notIn_seq opf_notInF (d_b (d_ix (d_varb 3) (d_b d_int))) (d_b (d_tup (a_cons d_str (a_cons d_str a_nil)) (v_cons (v_cons v_nil)))) (by with_unfolding_all rfl)))) (fun _ _ _ _ _ => d_int))) a_nil)))
    (b_one (s_ret (d_tup (a_cons (d_var 1) (a_cons (d_var 2) a_nil)) (v_cons (v_cons v_nil))))))))
theorem ok__law_due {f : Addr} {fd : FuncData} (F : Fun K "_law_due" "_law_due" s__law_due f fd) (z_len : mg "len" = none) :
    FnOk P w K mg base CX0 1 f fd ["steps"] (spD K .val [.bor] F__law_due) :=
  fn_okB (b := B__law_due) F sc__law_due rfl rfl (am_bor am_nil) (fun cdv A outer s H E hr =>
    (b_cons (s_set 1 sc__law_due.nd d_int)
    (b_cons (s_set 2 sc__law_due.nd d_int)
    (b_cons (s_for PassesOwn.never rfl (i_par (d_varp 0)) (g_tup rfl (gs_cons (g_name 3 sc__law_due.nd) (gs_cons (g_name 4 sc__law_due.nd) (gs_cons (g_name 5 sc__law_due.nd) gs_nil))))
      (b_cons (s_set 1 sc__law_due.nd (d_op op_addAll opf_addAll (d_varb 1) (d_b (d_callB call_len cf_len bor1 (by rfl) z_len PySem.boot_len (a_cons (d_varb 5) a_nil)))))
      (b_one (s_if (t_w (w_and (t_cmp (op_neD hr.units) opf_ne (d_varb 4) (d_b d_str) (nomark _)) (w_and1 (t_cmp (op_neD hr.units) opf_ne (d_varb 4) (d_b d_str) (nomark _)))))
        (b_one (s_set 2 sc__law_due.nd (d_op op_addAll opf_addAll (d_varb 2) (d_b d_int))))
        b_nil))))
    (b_one (s_ret (d_tup (a_cons (d_var 1) (a_cons (d_var 2) a_nil)) (v_cons (v_cons v_nil)))))))))
theorem ok__law_is_integer {f : Addr} {fd : FuncData} (F : Fun K "_law_is_integer" "_law_is_integer" s__law_is_integer f fd) (z_bool : mg "bool" = none) (z_int : mg "int" = none) (z_isinstance : mg "isinstance" = none) :
    FnOk P w K mg base CX0 1 f fd ["value"] (spD K .val [.bor] F__law_is_integer) :=
  fn_okB (b := B__law_is_integer) F sc__law_is_integer rfl rfl (am_bor am_nil) (fun cdv A outer s H E hr =>
    (b_one (s_ret (d_and (d_isi (by rfl) z_isinstance (d_varb 0) (by rfl) z_int PyProof.Rows.boot_int okT_int (by decide +kernel)) (d_one (d_not (d_b (d_isi (by rfl) z_isinstance (d_varb 0) (by rfl) z_bool (by decide +kernel) okT_bool (by decide +kernel)))))))))
theorem ok_is_word {f : Addr} {fd : FuncData} (F : Fun K "is_word" "is_word" s_is_word f fd) {c : Addr} (hc : fd.code = .ref c) (TB : GxR.TabB base mg c (cl "is_word")) (z_all : mg "all" = none) (z_isinstance : mg "isinstance" = none) (z_len : mg "len" = none) (z_str : mg "str" = none) :
    FnOk P w K mg base CX0 1 f fd ["value"] (spW K cl (.md .val) [(.md .val)] F_is_word) :=
  fn_okWCB (b := B_is_word) F hc sc_is_word rfl rfl (fun A outer s H E hr =>
    (mb_cons (ms_if (mt_l (t_w (w_or (t_not (t_val (d_b (d_isi (by rfl) z_isinstance (d_varb 0) (by rfl) z_str (by decide +kernel) okT_str (by decide +kernel))))) (w_or1 (t_not (t_chain op_le (opf_cmpI _) op_le (opf_cmpI _) (d_b d_int) (d_b (d_callB call_len cf_len bor1 (by rfl) z_len PySem.boot_len (a_cons (d_varb 0) a_nil))) (d_b d_int)))))))
      (mb_one (ms_ret (m_l d_bl)))
      mb_nil)
    (mb_one (ms_ret (m_allT hr z_all TB rfl ⟨rfl, rfl, by decide +kernel, rfl, rfl, fun y hy e => absurd e ((by decide +kernel : ∀ y ∈ Scope.names _, y.2 ≠ NameKind.free) y hy)⟩ (m_l (d_var 0)) (elt_rng rfl rfl))))))
theorem ok_parse_step {f : Addr} {fd : FuncData} (F : Fun K "parse_step" "parse_step" s_parse_step f fd) (C_is_word : Fn1W P w K mg base cl "is_word" ["value"] 1 (.md .val) [(.md .val)] F_is_word) (z_enumerate : mg "enumerate" = none) (z_tuple : mg "tuple" = none) :
    FnOk P w K mg base CX0 2 f fd ["word"] (spW K cl (.md .val) [(.md .bor)] F_parse_step) :=
  fn_okWB (b := B_parse_step) F sc_parse_step rfl rfl (fun cdv A outer s H E hr =>
    (mb_cons (ms_if (mt_l (t_cmp (op_eqD hr.units) opf_eq (d_varb 0) (d_b d_str) (nomark _)))
      (mb_one (ms_ret (m_l (d_tup (a_cons d_str (a_cons (d_tup a_nil v_nil) a_nil)) (v_cons (v_cons v_nil))))))
      mb_nil)
    (mb_cons (ms_l (s_set 1 sc_parse_step.nd (d_fz (d_split (d_varb 0) (d_b d_str)))))
    (mb_cons (ms_l (s_set 2 sc_parse_step.nd (d_ix (d_varb 1) (d_b d_int))))
    (mb_cons (ms_l (s_set 3 sc_parse_step.nd (d_slice (d_varb 1) (o_so d_int) o_no)))
    (mb_cons (ms_if (mt_w (mw_and (mt_l (t_cmp (op_neD hr.units) opf_ne (d_varb 2) (d_b d_str) (nomark _))) (mw_and1 (mt_not (mt_val (m_fn C_is_word (hr.mono (by decide)) (ma_val (m_l (d_var 2)) ma_nil)))))))
      (mb_one (ms_ret (m_l d_non)))
      mb_nil)
    (mb_cons (ms_if (mt_l (t_w (w_and (t_cmp (op_eqD hr.units) opf_eq (d_varb 2) (d_b d_str) (nomark _)) (w_and1 (t_not (t_val (d_varb 3)))))))
      (mb_one (ms_ret (m_l d_non)))
      mb_nil)
    (mb_cons (ms_for PassesOwn.never rfl (im_enum (by rfl) z_enumerate (ma_val (m_l (d_var 3)) ma_nil)) (g_tup rfl (gs_cons (g_name 4 sc_parse_step.nd) (gs_cons (g_name 5 sc_parse_step.nd) gs_nil)))
      (mb_one (ms_if (mt_w (mw_or (mt_not (mt_val (m_fn C_is_word (hr.mono (by decide)) (ma_val (m_l (d_var 5)) ma_nil)))) (mw_or1 (mt_l (t_cmp (op_inA (units65 hr)) opf_in (d_varb 5) (d_b (d_slice (d_varb 3) o_no (o_so (d_var 4)))) (by with_unfolding_all rfl))))))
        (mb_one (ms_ret (m_l d_non)))
        mb_nil)))
    (mb_one (ms_ret (m_l (d_tup (a_cons (d_var 2) (a_cons (d_callTy call_tuple_of cf_tuple bor1 (by rfl) z_tuple (by decide +kernel) (a_cons (d_varb 3) a_nil)) a_nil)) (v_cons (v_cons v_nil))))))))))))))
theorem ok_parse_words {f : Addr} {fd : FuncData} (F : Fun K "parse_words" "parse_words" s_parse_words f fd) (C_parse_step : Fn1W P w K mg base cl "parse_step" ["word"] 2 (.md .val) [(.md .bor)] F_parse_step) :
    FnOk P w K mg base CX0 3 f fd ["words"] (spW K cl (.md .val) [(.md .bor)] F_parse_words) :=
  fn_okWB (b := B_parse_words) F sc_parse_words rfl rfl (fun cdv A outer s H E hr =>
    (mb_cons (ms_l (s_own 1 sc_parse_words.nd (d_lst a_nil v_nil)))
    (mb_cons (ms_l (s_set 2 sc_parse_words.nd d_str))
    (mb_cons (ms_l (s_set 3 sc_parse_words.nd d_bl))
    (mb_cons (ms_for PassesOwn.never rfl (im_par 0) (g_name 4 sc_parse_words.nd)
      (mb_cons (ms_if (mt_l (t_w (w_and (t_cmp (op_eqD hr.units) opf_eq (d_varb 4) (d_b d_str) (nomark _)) (w_and1 (t_not (t_val (d_varb 3)))))))
        (mb_cons (ms_l (s_set 2 sc_parse_words.nd d_str))
        (mb_cons (ms_l (s_set 3 sc_parse_words.nd d_bl))
        (mb_one (ms_l s_continue))))
        mb_nil)
      (mb_cons (ms_if (mt_l (t_not (t_val (d_varb 3))))
        (mb_one (ms_l (s_set 2 sc_parse_words.nd d_str)))
        mb_nil)
      (mb_cons (ms_set 5 sc_parse_words.nd (m_fn C_parse_step (hr.mono (by decide)) (ma_bor 4 ma_nil)))
      (mb_cons (ms_if (mt_l (t_cmp op_isN opf_isN (d_varb 5) (d_b d_non) (nomark _)))
        (mb_one (ms_ret (m_l d_non)))
        mb_nil)
      (mb_cons (ms_l (s_app 1 (d_tup (a_cons (d_var 2) (a_cons (d_ix (d_varb 5) (d_b d_int)) (a_cons (d_ix (d_varb 5) (d_b d_int)) a_nil))) (v_cons (v_cons (v_cons v_nil))))))
      (mb_one (ms_l (s_set 3 sc_parse_words.nd d_bl)))))))))
    (mb_one (ms_fz 1 (ms_ret (m_l (d_if (t_val (d_varb 3)) d_non (d_var 1)))))))))))
theorem ok_parse_selector {f : Addr} {fd : FuncData} (F : Fun K "parse_selector" "parse_selector" s_parse_selector f fd) (C_parse_words : Fn1W P w K mg base cl "parse_words" ["words"] 3 (.md .val) [(.md .bor)] F_parse_words) {t_MOST_SELECTOR : Tok} (c_MOST_SELECTOR : mg "MOST_SELECTOR" = some (.int 100 t_MOST_SELECTOR)) {t_MOST_STEPS : Tok} (c_MOST_STEPS : mg "MOST_STEPS" = some (.int 4 t_MOST_STEPS)) (z_isinstance : mg "isinstance" = none) (z_len : mg "len" = none) (z_str : mg "str" = none) (z_tuple : mg "tuple" = none) :
    FnOk P w K mg base CX0 4 f fd ["text"] (spW K cl (.md .val) [(.md .bor)] F_parse_selector) :=
  fn_okWB (b := B_parse_selector) F sc_parse_selector rfl rfl (fun cdv A outer s H E hr =>
    (mb_cons (ms_if (mt_l (t_w (w_or (t_not (t_val (d_b (d_isi (by rfl) z_isinstance (d_varb 0) (by rfl) z_str (by decide +kernel) okT_str (by decide +kernel))))) (w_or1 (t_cmp op_gt (opf_cmpI _) (d_b (d_callB call_len cf_len bor1 (by rfl) z_len PySem.boot_len (a_cons (d_varb 0) a_nil))) (d_b (d_const (pe_glob (v := .int 100) rfl c_MOST_SELECTOR ⟨_, rfl⟩) fun _ => .int _)) (nomark _))))))
      (mb_one ms_dead)
      mb_nil)
    (mb_cons (ms_set 1 sc_parse_selector.nd (m_fn C_parse_words (hr.mono (by decide)) (ma_valb (m_l (d_fz (d_split (d_varb 0) (d_b d_str)))) ma_nil)))
    (mb_cons (ms_if (mt_l (t_w (w_or (t_cmp op_isN opf_isN (d_varb 1) (d_b d_non) (nomark _)) (w_or1 (t_cmp op_gt (opf_cmpI _) (d_b (d_callB call_len cf_len bor1 (by rfl) z_len PySem.boot_len (a_cons (d_varb 1) a_nil))) (d_b (d_const (pe_glob (v := .int 4) rfl c_MOST_STEPS ⟨_, rfl⟩) fun _ => .int _)) (nomark _))))))
      (mb_one ms_dead)
      mb_nil)
    (mb_one (ms_ret (m_l (d_callTy call_tuple_of cf_tuple bor1 (by rfl) z_tuple (by decide +kernel) (a_cons (d_varb 1) a_nil)))))))))
theorem ok_law {f : Addr} {fd : FuncData} (F : Fun K "law" "law" s_law f fd) (C__law_word : Fn1W P w K mg base cl "_law_word" ["state"] 2 (.md .val) [.q] F__law_word) (C__law_steps : Fn1W P w K mg base cl "_law_steps" ["state", "names", "signs"] 3 (.md .new) [.q, (.md .bor), (.md .bor)] F__law_steps) (C_weight : Fn1 P w K mg base "weight" ["steps"] 1 .val [.bor] F_weight) (C__law_due : Fn1 P w K mg base "_law_due" ["steps"] 1 .val [.bor] F__law_due) (C__law_is_integer : Fn1 P w K mg base "_law_is_integer" ["value"] 1 .val [.bor] F__law_is_integer) (C_parse_selector : Fn1W P w K mg base cl "parse_selector" ["text"] 4 (.md .val) [(.md .bor)] F_parse_selector) (C__law_written : Fn1 P w K mg base "_law_written" ["steps"] 1 .val [.bor] F__law_written) (z_isinstance : mg "isinstance" = none) (z_len : mg "len" = none) (z_list : mg "list" = none) (z_tuple : mg "tuple" = none) :
    FnOk P w K mg base CX0 5 f fd ["script"] (spW K cl (.md .val) [(.md .scr)] F_law) :=
  fn_okWB (b := B_law) F sc_law rfl rfl (fun cdv A outer s H E hr =>
    (mb_cons (ms_any 1 sc_law.nd (q_r (r_list (ma_q (q_r (r_mk (m_l (d_listS (d_vars 0) z_list)))) (ma_q (q_m (m_l d_int)) (ma_q (q_m (m_l d_int)) ma_nil))) (aq_cons (aq_cons (aq_cons aq_nil))))))
    (mb_cons (ms_set 2 sc_law.nd (m_fz (m_lst (ma_val (m_fn C__law_word (hr.mono (by decide)) (ma_q (q_var 1) ma_nil)) (ma_val (m_l d_str) (ma_val (m_l d_str) ma_nil))) (av_cons (av_cons (av_cons av_nil))))))
    (mb_cons (ms_set 3 sc_law.nd (m_fz (m_lst (ma_val (m_fn C__law_word (hr.mono (by decide)) (ma_q (q_var 1) ma_nil)) (ma_val (m_l d_str) (ma_val (m_l d_str) (ma_val (m_l d_str) (ma_val (m_l d_str) (ma_val (m_l d_str) (ma_val (m_l d_str) (ma_val (m_l d_str) ma_nil)))))))) (av_cons (av_cons (av_cons (av_cons (av_cons (av_cons (av_cons (av_cons av_nil)))))))))))
    (mb_cons (ms_set 4 sc_law.nd (m_fz (m_fn C__law_steps (hr.mono (by decide)) (ma_q (q_var 1) (ma_bor 2 (ma_bor 3 ma_nil))))))
    (mb_cons (ms_set 5 sc_law.nd (m_fz (m_fn C__law_steps (hr.mono (by decide)) (ma_q (q_var 1) (ma_bor 2 (ma_bor 3 ma_nil))))))
    (mb_cons (ms_l (s_set 6 sc_law.nd (d_fn C_weight (hr.mono (by decide)) (a_cons (d_b (d_callTy call_tuple_of cf_tuple bor1 (by rfl) z_tuple (by decide +kernel) (a_cons (d_varb 4) a_nil))) a_nil) (am_bor am_nil))))
    (mb_cons (ms_if (mt_l (t_w (w_or (t_not (t_val (d_b (d_isi (by rfl) z_isinstance (d_varb 6) (by rfl) z_tuple (by decide +kernel) okT_tuple (by decide +kernel))))) (w_or (t_cmp (op_neD hr.units) opf_ne (d_b (d_callB call_len cf_len bor1 (by rfl) z_len PySem.boot_len (a_cons (d_varb 6) a_nil))) (d_b d_int) (nomark _)) (w_or1 (t_cmp (op_neD hr.units) opf_ne (d_varb 6) (d_b (d_fn C__law_due (hr.mono (by decide)) (a_cons (d_varb 4) a_nil) (am_bor am_nil))) (nomark _)))))))
      (mb_one (ms_ret (m_l d_bl)))
      mb_nil)
    (mb_cons (ms_if (mt_l (t_w (w_or (t_not (t_val (d_b (d_fn C__law_is_integer (hr.mono (by decide)) (a_cons (d_b (d_ix (d_varb 6) (d_b d_int))) a_nil) (am_bor am_nil))))) (w_or1 (t_not (t_val (d_b (d_fn C__law_is_integer (hr.mono (by decide)) (a_cons (d_b (d_ix (d_varb 6) (d_b d_int))) a_nil) (am_bor am_nil)))))))))
      (mb_one (ms_ret (m_l d_bl)))
      mb_nil)
    (mb_cons (ms_if (mt_cmpB (op_neD hr.units) opf_ne (mb_v (m_pfn C_weight (hr.mono (by decide)) (ma_val (m_fn C_parse_selector (hr.mono (by decide)) (ma_valb (m_l (d_fn C__law_written (hr.mono (by decide)) (a_cons (d_varb 4) a_nil) (am_bor am_nil))) ma_nil)) ma_nil) (av_cons av_nil) (ab_bor ab_nil))) (mb_var 6) (nomark _))
      (mb_one (ms_ret (m_l d_bl)))
      mb_nil)
    (mb_cons (ms_l (s_set 7 sc_law.nd (d_fn C_weight (hr.mono (by decide)) (a_cons (d_b (d_callTy call_tuple_of cf_tuple bor1 (by rfl) z_tuple (by decide +kernel) (a_cons (d_varb 5) a_nil))) a_nil) (am_bor am_nil))))
    (mb_cons (ms_l (s_set 8 sc_law.nd (d_op op_addAll opf_addAll (d_b (d_op op_addAll opf_addAll (d_varb 4) (d_b (d_lst (a_cons (d_tup (a_cons d_str (a_cons (d_ix (d_b (d_ix (d_varb 5) (d_b d_int))) (d_b d_int)) (a_cons (d_ix (d_b (d_ix (d_varb 5) (d_b d_int))) (d_b d_int)) a_nil))) (v_cons (v_cons (v_cons v_nil)))) a_nil) (v_cons v_nil))))) (d_b (d_slice (d_varb 5) (o_so d_int) o_no)))))
    (mb_cons (ms_if (mt_l (t_w (w_or (t_cmp op_gt (opf_cmpI _) (d_b (d_callB call_len cf_len bor1 (by rfl) z_len PySem.boot_len (a_cons (d_varb 8) a_nil))) (d_b d_int) (nomark _)) (w_or1 (t_cmp op_gt (opf_cmpI _) (d_b (d_callB call_len cf_len bor1 (by rfl) z_len PySem.boot_len (a_cons (d_b (d_fn C__law_written (hr.mono (by decide)) (a_cons (d_varb 8) a_nil) (am_bor am_nil))) a_nil))) (d_b d_int) (nomark _))))))
      (mb_one (ms_ret (m_l (d_cmp (op_eqD hr.units) opf_eq (d_varb 7) (d_b (d_fn C__law_due (hr.mono (by decide)) (a_cons (d_varb 5) a_nil) (am_bor am_nil))) (nomark _)))))
      mb_nil)
    (mb_one (ms_ret (m_l (d_cmp (op_eqD hr.units) opf_eq (d_b (d_fn C_weight (hr.mono (by decide)) (a_cons (d_b (d_callTy call_tuple_of cf_tuple bor1 (by rfl) z_tuple (by decide +kernel) (a_cons (d_varb 8) a_nil))) a_nil) (am_bor am_nil))) (d_b (d_tup (a_cons (d_op op_addAll opf_addAll (d_b (d_ix (d_varb 6) (d_b d_int))) (d_b (d_ix (d_varb 7) (d_b d_int)))) (a_cons (d_op op_addAll opf_addAll (d_b (d_ix (d_varb 6) (d_b d_int))) (d_b (d_ix (d_varb 7) (d_b d_int)))) a_nil)) (v_cons (v_cons v_nil)))) (nomark _))))))))))))))))))
end
/-! ### what the top has written -/
theorem all_mk {l : PySem.W.OpenLaw} {w : World} {K : PySem.W.Frag} {h : Heap} {q : Program} {lo : List Str} {mean : ExcName → Option Value} {mg mb : Str → Option Value} {fa : Addr} (T : PyProof.Rows.Top q lo mean mg mb h) (X : K.In h) (G : h.Ns mainGlobals mg) (hfa : mg "law" = some (.ref fa))
    {f0 : Addr} {od0 an0 : Option Addr} {sl0 : Array (Option Value)} {oc0 kV0 dc0 pm0 cd0 ct0 : Value}
    {f1 : Addr} {od1 an1 : Option Addr} {sl1 : Array (Option Value)} {oc1 kV1 dc1 pm1 cd1 ct1 : Value}
    {f2 : Addr} {od2 an2 : Option Addr} {sl2 : Array (Option Value)} {oc2 kV2 dc2 pm2 cd2 ct2 : Value}
    {f3 : Addr} {od3 an3 : Option Addr} {sl3 : Array (Option Value)} {oc3 kV3 dc3 pm3 cd3 ct3 : Value}
    {f4 : Addr} {od4 an4 : Option Addr} {sl4 : Array (Option Value)} {oc4 kV4 dc4 pm4 cd4 ct4 : Value}
    {f5 : Addr} {od5 an5 : Option Addr} {sl5 : Array (Option Value)} {oc5 kV5 dc5 pm5 cd5 ct5 : Value}
    {f6 : Addr} {od6 an6 : Option Addr} {sl6 : Array (Option Value)} {oc6 kV6 dc6 pm6 cd6 ct6 : Value}
    {f7 : Addr} {od7 an7 : Option Addr} {sl7 : Array (Option Value)} {oc7 kV7 dc7 pm7 cd7 ct7 : Value}
    {f8 : Addr} {od8 an8 : Option Addr} {sl8 : Array (Option Value)} {oc8 kV8 dc8 pm8 ct8 : Value}
    {cA8 P8 : Addr} {cc8 : Value} {cD8 : Option Addr} {cs8 : Array (Option Value)} {cv8 : Array Value}
    {f9 : Addr} {od9 an9 : Option Addr} {sl9 : Array (Option Value)} {oc9 kV9 dc9 pm9 cd9 ct9 : Value}
    {f10 : Addr} {od10 an10 : Option Addr} {sl10 : Array (Option Value)} {oc10 kV10 dc10 pm10 cd10 ct10 : Value}
    {f11 : Addr} {od11 an11 : Option Addr} {sl11 : Array (Option Value)} {oc11 kV11 dc11 pm11 cd11 ct11 : Value}
    {f12 : Addr} {od12 an12 : Option Addr} {sl12 : Array (Option Value)} {oc12 kV12 dc12 pm12 cd12 ct12 : Value}
    {t_MOST_SELECTOR : Tok}
    {t_MOST_STEPS : Tok}
    (a0 : PySem.W.nsIn K mainGlobals "_law_next" = some (some (.ref f0)))
    (l0 : K.lookup f0 = some ⟨oc0, od0, .func (PySem.W.fnOf "_law_next" "_law_next" (defArgs s__law_next) (defBody s__law_next) (defScope s__law_next) .none kV0 dc0 pm0 an0 cd0 ct0), sl0⟩) (c0 : PySem.W.codeIn K cd0 "_law_next" = true) (k0 : PySem.W.keepIn K (.ref f0) = true)
    (a1 : PySem.W.nsIn K mainGlobals "_law_word" = some (some (.ref f1)))
    (l1 : K.lookup f1 = some ⟨oc1, od1, .func (PySem.W.fnOf "_law_word" "_law_word" (defArgs s__law_word) (defBody s__law_word) (defScope s__law_word) .none kV1 dc1 pm1 an1 cd1 ct1), sl1⟩) (c1 : PySem.W.codeIn K cd1 "_law_word" = true) (k1 : PySem.W.keepIn K (.ref f1) = true)
    (a2 : PySem.W.nsIn K mainGlobals "_law_step" = some (some (.ref f2)))
    (l2 : K.lookup f2 = some ⟨oc2, od2, .func (PySem.W.fnOf "_law_step" "_law_step" (defArgs s__law_step) (defBody s__law_step) (defScope s__law_step) .none kV2 dc2 pm2 an2 cd2 ct2), sl2⟩) (c2 : PySem.W.codeIn K cd2 "_law_step" = true) (k2 : PySem.W.keepIn K (.ref f2) = true)
    (a3 : PySem.W.nsIn K mainGlobals "_law_written" = some (some (.ref f3)))
    (l3 : K.lookup f3 = some ⟨oc3, od3, .func (PySem.W.fnOf "_law_written" "_law_written" (defArgs s__law_written) (defBody s__law_written) (defScope s__law_written) .none kV3 dc3 pm3 an3 cd3 ct3), sl3⟩) (c3 : PySem.W.codeIn K cd3 "_law_written" = true) (k3 : PySem.W.keepIn K (.ref f3) = true)
    (a4 : PySem.W.nsIn K mainGlobals "_law_steps" = some (some (.ref f4)))
    (l4 : K.lookup f4 = some ⟨oc4, od4, .func (PySem.W.fnOf "_law_steps" "_law_steps" (defArgs s__law_steps) (defBody s__law_steps) (defScope s__law_steps) .none kV4 dc4 pm4 an4 cd4 ct4), sl4⟩) (c4 : PySem.W.codeIn K cd4 "_law_steps" = true) (k4 : PySem.W.keepIn K (.ref f4) = true)
    (a5 : PySem.W.nsIn K mainGlobals "weight" = some (some (.ref f5)))
    (l5 : K.lookup f5 = some ⟨oc5, od5, .func (PySem.W.fnOf "weight" "weight" (defArgs s_weight) (defBody s_weight) (defScope s_weight) .none kV5 dc5 pm5 an5 cd5 ct5), sl5⟩) (c5 : PySem.W.codeIn K cd5 "weight" = true) (k5 : PySem.W.keepIn K (.ref f5) = true)
    (a6 : PySem.W.nsIn K mainGlobals "_law_due" = some (some (.ref f6)))
    (l6 : K.lookup f6 = some ⟨oc6, od6, .func (PySem.W.fnOf "_law_due" "_law_due" (defArgs s__law_due) (defBody s__law_due) (defScope s__law_due) .none kV6 dc6 pm6 an6 cd6 ct6), sl6⟩) (c6 : PySem.W.codeIn K cd6 "_law_due" = true) (k6 : PySem.W.keepIn K (.ref f6) = true)
    (a7 : PySem.W.nsIn K mainGlobals "_law_is_integer" = some (some (.ref f7)))
    (l7 : K.lookup f7 = some ⟨oc7, od7, .func (PySem.W.fnOf "_law_is_integer" "_law_is_integer" (defArgs s__law_is_integer) (defBody s__law_is_integer) (defScope s__law_is_integer) .none kV7 dc7 pm7 an7 cd7 ct7), sl7⟩) (c7 : PySem.W.codeIn K cd7 "_law_is_integer" = true) (k7 : PySem.W.keepIn K (.ref f7) = true)
    (a8 : PySem.W.nsIn K mainGlobals "is_word" = some (some (.ref f8)))
    (l8 : K.lookup f8 = some ⟨oc8, od8, .func (PySem.W.fnOf "is_word" "is_word" (defArgs s_is_word) (defBody s_is_word) (defScope s_is_word) .none kV8 dc8 pm8 an8 (.ref cA8) ct8), sl8⟩) (c8 : PySem.W.codeIn K (.ref cA8) "is_word" = true) (k8 : PySem.W.keepIn K (.ref f8) = true)
    (tl8 : K.lookup cA8 = some ⟨cc8, cD8, .fields cv8, cs8⟩) (tv8 : cv8[11]? = some (.ref P8)) (tn8 : K.lookup P8 = none) (tr8 : (PyProof.Rows.recsOf q).any (fun d => decide (d.name = "is_word")) = true)
    (a9 : PySem.W.nsIn K mainGlobals "parse_step" = some (some (.ref f9)))
    (l9 : K.lookup f9 = some ⟨oc9, od9, .func (PySem.W.fnOf "parse_step" "parse_step" (defArgs s_parse_step) (defBody s_parse_step) (defScope s_parse_step) .none kV9 dc9 pm9 an9 cd9 ct9), sl9⟩) (c9 : PySem.W.codeIn K cd9 "parse_step" = true) (k9 : PySem.W.keepIn K (.ref f9) = true)
    (a10 : PySem.W.nsIn K mainGlobals "parse_words" = some (some (.ref f10)))
    (l10 : K.lookup f10 = some ⟨oc10, od10, .func (PySem.W.fnOf "parse_words" "parse_words" (defArgs s_parse_words) (defBody s_parse_words) (defScope s_parse_words) .none kV10 dc10 pm10 an10 cd10 ct10), sl10⟩) (c10 : PySem.W.codeIn K cd10 "parse_words" = true) (k10 : PySem.W.keepIn K (.ref f10) = true)
    (a11 : PySem.W.nsIn K mainGlobals "parse_selector" = some (some (.ref f11)))
    (l11 : K.lookup f11 = some ⟨oc11, od11, .func (PySem.W.fnOf "parse_selector" "parse_selector" (defArgs s_parse_selector) (defBody s_parse_selector) (defScope s_parse_selector) .none kV11 dc11 pm11 an11 cd11 ct11), sl11⟩) (c11 : PySem.W.codeIn K cd11 "parse_selector" = true) (k11 : PySem.W.keepIn K (.ref f11) = true)
    (a12 : PySem.W.nsIn K mainGlobals "law" = some (some (.ref f12)))
    (l12 : K.lookup f12 = some ⟨oc12, od12, .func (PySem.W.fnOf "law" "law" (defArgs s_law) (defBody s_law) (defScope s_law) .none kV12 dc12 pm12 an12 cd12 ct12), sl12⟩) (c12 : PySem.W.codeIn K cd12 "law" = true) (k12 : PySem.W.keepIn K (.ref f12) = true)
    (z_int : PySem.W.nsIn K mainGlobals "int" = some none)
    (z_len : PySem.W.nsIn K mainGlobals "len" = some none)
    (z_range : PySem.W.nsIn K mainGlobals "range" = some none)
    (z_tuple : PySem.W.nsIn K mainGlobals "tuple" = some none)
    (z_sum : PySem.W.nsIn K mainGlobals "sum" = some none)
    (z_bool : PySem.W.nsIn K mainGlobals "bool" = some none)
    (z_isinstance : PySem.W.nsIn K mainGlobals "isinstance" = some none)
    (z_all : PySem.W.nsIn K mainGlobals "all" = some none)
    (z_str : PySem.W.nsIn K mainGlobals "str" = some none)
    (z_enumerate : PySem.W.nsIn K mainGlobals "enumerate" = some none)
    (z_list : PySem.W.nsIn K mainGlobals "list" = some none)
    (c_MOST_SELECTOR : PySem.W.nsIn K mainGlobals "MOST_SELECTOR" = some (some (.int 100 t_MOST_SELECTOR)))
    (c_MOST_STEPS : PySem.W.nsIn K mainGlobals "MOST_STEPS" = some (some (.int 4 t_MOST_STEPS)))
    (LT : ∀ ns : List Int, ns.length ≤ 63 → (∀ z ∈ ns, Builtin.Int.intBits z ≤ 1048576) → ∃ w, F_law [.d (.list (ns.map .int))] [.tab "is_word"] = some (.d (.bool true), w)) :
    LamX.LawAtS l w K L2.CX0 5 63 "script" mg fa h := by
  have e := hfa.symm.trans (PySem.W.mg_of X G a12)
  cases e
  have F0 := fun_mk (st := s__law_next) l0 c0 k0
  have F1 := fun_mk (st := s__law_word) l1 c1 k1
  have F2 := fun_mk (st := s__law_step) l2 c2 k2
  have F3 := fun_mk (st := s__law_written) l3 c3 k3
  have F4 := fun_mk (st := s__law_steps) l4 c4 k4
  have F5 := fun_mk (st := s_weight) l5 c5 k5
  have F6 := fun_mk (st := s__law_due) l6 c6 k6
  have F7 := fun_mk (st := s__law_is_integer) l7 c7 k7
  have F8 := fun_mk (st := s_is_word) l8 c8 k8
  have F9 := fun_mk (st := s_parse_step) l9 c9 k9
  have F10 := fun_mk (st := s_parse_words) l10 c10 k10
  have F11 := fun_mk (st := s_parse_selector) l11 c11 k11
  have F12 := fun_mk (st := s_law) l12 c12 k12
  have TT8 := tab_at T X tr8 (PySem.W.mg_of X G a8) l8 rfl tl8 tv8
  refine ⟨PySem.W.fnOf "law" "law" (defArgs s_law) (defBody s_law) (defScope s_law) .none kV12 dc12 pm12 an12 cd12 ct12, [(cA8, P8)], spW K (fun _ => P8) (.md .val) [.md .scr] F_law, (List.forall_mem_cons.mpr ⟨TT8.2, (fun x hx => absurd hx List.not_mem_nil)⟩), (List.forall_mem_cons.mpr ⟨tn8, (fun x hx => absurd hx List.not_mem_nil)⟩), (List.forall_mem_cons.mpr ⟨TT8.1, (fun x hx => absurd hx List.not_mem_nil)⟩), fun s v => .of_eq rfl, fun H a ns hl hb hT hS => ?_, fun base _ _ TBs => ?_⟩
  · obtain ⟨w', hw⟩ := LT ns hl hb
    exact law_spT (xs := ["is_word"]) hS (List.forall_mem_cons.mpr ⟨hT (cA8, P8) (by simp), (fun x hx => absurd hx List.not_mem_nil)⟩) (List.nodup_cons.mpr ⟨List.not_mem_nil, List.nodup_nil⟩) hw
  have C__law_next : Fn1W l.prog w K mg base (fun _ => P8) "_law_next" ["state", "many"] 1 (.md .val) [.q, (.md .bor)] F__law_next := ⟨_, _, ok__law_next (cl := (fun _ => P8)) F0 (PySem.W.mg_none_of X G z_int) (PySem.W.mg_none_of X G z_len), PySem.W.mg_of X G a0, k0, F0.binds (ps := ["state", "many"]) fun _ _ _ _ _ _ us hl => match us, hl with | [_, _], _ => rfl⟩
  have C__law_word : Fn1W l.prog w K mg base (fun _ => P8) "_law_word" ["state"] 2 (.md .val) [.q] F__law_word := ⟨_, _, ok__law_word (cl := (fun _ => P8)) F1 C__law_next (PySem.W.mg_none_of X G z_range), PySem.W.mg_of X G a1, k1, F1.binds (ps := ["state"]) fun _ _ _ _ _ _ us hl => match us, hl with | [_], _ => rfl⟩
  have C__law_step : Fn1W l.prog w K mg base (fun _ => P8) "_law_step" ["state", "names", "signs"] 2 (.md .val) [.q, (.md .bor), (.md .bor)] F__law_step := ⟨_, _, ok__law_step (cl := (fun _ => P8)) F2 C__law_next (PySem.W.mg_none_of X G z_len) (PySem.W.mg_none_of X G z_range) (PySem.W.mg_none_of X G z_tuple), PySem.W.mg_of X G a2, k2, F2.binds (ps := ["state", "names", "signs"]) fun _ _ _ _ _ _ us hl => match us, hl with | [_, _, _], _ => rfl⟩
  have C__law_written : Fn1 l.prog w K mg base "_law_written" ["steps"] 1 .val [.bor] F__law_written := ⟨_, _, ok__law_written F3, PySem.W.mg_of X G a3, k3, F3.binds (ps := ["steps"]) fun _ _ _ _ _ _ us hl => match us, hl with | [_], _ => rfl⟩
  have C__law_steps : Fn1W l.prog w K mg base (fun _ => P8) "_law_steps" ["state", "names", "signs"] 3 (.md .new) [.q, (.md .bor), (.md .bor)] F__law_steps := ⟨_, _, ok__law_steps (cl := (fun _ => P8)) F4 C__law_next C__law_step C__law_written (PySem.W.mg_none_of X G z_len) (PySem.W.mg_none_of X G z_range), PySem.W.mg_of X G a4, k4, F4.binds (ps := ["state", "names", "signs"]) fun _ _ _ _ _ _ us hl => match us, hl with | [_, _, _], _ => rfl⟩
  have C_weight : Fn1 l.prog w K mg base "weight" ["steps"] 1 .val [.bor] F_weight := ⟨_, _, ok_weight F5 (PySem.W.mg_none_of X G z_len) (PySem.W.mg_none_of X G z_sum), PySem.W.mg_of X G a5, k5, F5.binds (ps := ["steps"]) fun _ _ _ _ _ _ us hl => match us, hl with | [_], _ => rfl⟩
  have C__law_due : Fn1 l.prog w K mg base "_law_due" ["steps"] 1 .val [.bor] F__law_due := ⟨_, _, ok__law_due F6 (PySem.W.mg_none_of X G z_len), PySem.W.mg_of X G a6, k6, F6.binds (ps := ["steps"]) fun _ _ _ _ _ _ us hl => match us, hl with | [_], _ => rfl⟩
  have C__law_is_integer : Fn1 l.prog w K mg base "_law_is_integer" ["value"] 1 .val [.bor] F__law_is_integer := ⟨_, _, ok__law_is_integer F7 (PySem.W.mg_none_of X G z_bool) (PySem.W.mg_none_of X G z_int) (PySem.W.mg_none_of X G z_isinstance), PySem.W.mg_of X G a7, k7, F7.binds (ps := ["value"]) fun _ _ _ _ _ _ us hl => match us, hl with | [_], _ => rfl⟩
  have C_is_word : Fn1W l.prog w K mg base (fun _ => P8) "is_word" ["value"] 1 (.md .val) [(.md .val)] F_is_word := ⟨_, _, ok_is_word (cl := (fun _ => P8)) F8 rfl (tabB_of (TBs (cA8, P8) (by simp))) (PySem.W.mg_none_of X G z_all) (PySem.W.mg_none_of X G z_isinstance) (PySem.W.mg_none_of X G z_len) (PySem.W.mg_none_of X G z_str), PySem.W.mg_of X G a8, k8, F8.binds (ps := ["value"]) fun _ _ _ _ _ _ us hl => match us, hl with | [_], _ => rfl⟩
  have C_parse_step : Fn1W l.prog w K mg base (fun _ => P8) "parse_step" ["word"] 2 (.md .val) [(.md .bor)] F_parse_step := ⟨_, _, ok_parse_step (cl := (fun _ => P8)) F9 C_is_word (PySem.W.mg_none_of X G z_enumerate) (PySem.W.mg_none_of X G z_tuple), PySem.W.mg_of X G a9, k9, F9.binds (ps := ["word"]) fun _ _ _ _ _ _ us hl => match us, hl with | [_], _ => rfl⟩
  have C_parse_words : Fn1W l.prog w K mg base (fun _ => P8) "parse_words" ["words"] 3 (.md .val) [(.md .bor)] F_parse_words := ⟨_, _, ok_parse_words (cl := (fun _ => P8)) F10 C_parse_step, PySem.W.mg_of X G a10, k10, F10.binds (ps := ["words"]) fun _ _ _ _ _ _ us hl => match us, hl with | [_], _ => rfl⟩
  have C_parse_selector : Fn1W l.prog w K mg base (fun _ => P8) "parse_selector" ["text"] 4 (.md .val) [(.md .bor)] F_parse_selector := ⟨_, _, ok_parse_selector (cl := (fun _ => P8)) F11 C_parse_words (PySem.W.mg_of X G c_MOST_SELECTOR) (PySem.W.mg_of X G c_MOST_STEPS) (PySem.W.mg_none_of X G z_isinstance) (PySem.W.mg_none_of X G z_len) (PySem.W.mg_none_of X G z_str) (PySem.W.mg_none_of X G z_tuple), PySem.W.mg_of X G a11, k11, F11.binds (ps := ["text"]) fun _ _ _ _ _ _ us hl => match us, hl with | [_], _ => rfl⟩
  exact ok_law (cl := (fun _ => P8)) F12 C__law_word C__law_steps C_weight C__law_due C__law_is_integer C_parse_selector C__law_written (PySem.W.mg_none_of X G z_isinstance) (PySem.W.mg_none_of X G z_len) (PySem.W.mg_none_of X G z_list) (PySem.W.mg_none_of X G z_tuple)
end Lw

namespace Lw
open PySem L2 DV
/-! ### the law's draws, anywhere in the world -/
def StW (w : Wd) (h0 h : Nat) (cs : List Int) (a b : Int) : Wd := (w.set h0 (.lst (cs.map fun i => .d (.int i)))).set h (.lst [.r h0, .d (.int a), .d (.int b)])
section
variable {w : Wd} {h0 h : Nat}
theorem StW_0 (hne : h0 ≠ h) (l0 : h0 < w.length) (cs : List Int) (a b : Int) : (StW w h0 h cs a b)[h0]? = some (.lst (cs.map fun i => .d (.int i))) := by
  unfold StW; rw [List.getElem?_set_ne (Ne.symm hne), List.getElem?_set_self l0]
theorem StW_1 (l1 : h < w.length) (cs : List Int) (a b : Int) : (StW w h0 h cs a b)[h]? = some (.lst [.r h0, .d (.int a), .d (.int b)]) := by
  unfold StW; rw [List.getElem?_set_self (by rw [List.length_set]; exact l1)]
theorem StW_s1 (cs : List Int) (a b a' b' : Int) : (StW w h0 h cs a b).set h (.lst [.r h0, .d (.int a'), .d (.int b')]) = StW w h0 h cs a' b' := by
  unfold StW; rw [List.set_set]
theorem StW_s0 (hne : h0 ≠ h) (cs cs' : List Int) (a b : Int) : (StW w h0 h cs a b).set h0 (.lst (cs'.map fun i => .d (.int i))) = StW w h0 h cs' a b := by
  unfold StW; rw [List.set_comm _ _ (Ne.symm hne), List.set_set]
theorem StW_id {cs : List Int} {a b : Int} (e0 : w[h0]? = some (.lst (cs.map fun i => .d (.int i)))) (e1 : w[h]? = some (.lst [.r h0, .d (.int a), .d (.int b)])) : StW w h0 h cs a b = w := by
  unfold StW
  apply List.ext_getElem?
  intro j
  by_cases z : h = j
  · subst z; rw [List.getElem?_set_self (by rw [List.length_set]; exact (List.getElem?_eq_some_iff.mp e1).1), e1]
  · rw [List.getElem?_set_ne z]
    by_cases y : h0 = j
    · subst y; rw [List.getElem?_set_self (List.getElem?_eq_some_iff.mp e0).1, e0]
    · rw [List.getElem?_set_ne y]
theorem nextG (hne : h0 ≠ h) (l0 : h0 < w.length) (l1 : h < w.length) (cs : List Int) (a b : Int) (ha : 0 ≤ a) (m : Int) (hm : 0 < m) (hm2 : m < 18446744073709551616) : ∃ (d : Int) (cs' : List Int) (a' b' : Int), F__law_next [.r h, .d (.int m)] (StW w h0 h cs a b) = some (.d (.int d), StW w h0 h cs' a' b') ∧ 0 ≤ d ∧ d < m ∧ 0 ≤ a' := by
  have i1 : ∀ (ρ : Rho) (cs : List Int) (a b : Int), mD (mIx (mR (mVar 0)) (mL (eK (.int 1)))) (.st h :: ρ) (StW w h0 h cs a b) = some (.int a, StW w h0 h cs a b) := fun ρ cs a b => mIxD_eq rfl rfl (StW_1 l1 ..) rfl
  have i2 : ∀ (ρ : Rho) (cs : List Int) (a b : Int), mD (mIx (mR (mVar 0)) (mL (eK (.int 2)))) (.st h :: ρ) (StW w h0 h cs a b) = some (.int b, StW w h0 h cs a b) := fun ρ cs a b => mIxD_eq rfl rfl (StW_1 l1 ..) rfl
  have i0 : ∀ (ρ : Rho) (cs : List Int) (a b : Int), mR (mIx (mR (mVar 0)) (mL (eK (.int 0)))) (.st h :: ρ) (StW w h0 h cs a b) = some (h0, StW w h0 h cs a b) := fun ρ cs a b => mIxR_eq rfl rfl (StW_1 l1 ..) rfl
  have p1 : ∀ (ρ : Rho) (cs : List Int) (a b : Int) (v : Int) (q : MQ) (w0 : Wd), q (.st h :: ρ) w0 = some (.d (.int v), StW w h0 h cs a b) → mPutI (mR (mVar 0)) (mL (eK (.int 1))) q (.st h :: ρ) w0 = some (.nx (.st h :: ρ), StW w h0 h cs v b) := fun ρ cs a b v q w0 e => by
    rw [mPutI_eq (k := 1) e rfl rfl (StW_1 l1 cs a b) rfl, ← StW_s1 cs a b v b]; rfl
  have p2 : ∀ (ρ : Rho) (cs : List Int) (a b : Int) (v : Int) (q : MQ) (w0 : Wd), q (.st h :: ρ) w0 = some (.d (.int v), StW w h0 h cs a b) → mPutI (mR (mVar 0)) (mL (eK (.int 2))) q (.st h :: ρ) w0 = some (.nx (.st h :: ρ), StW w h0 h cs a v) := fun ρ cs a b v q w0 e => by
    rw [mPutI_eq (k := 2) e rfl rfl (StW_1 l1 cs a b) rfl, ← StW_s1 cs a b a v]; rfl
  -- the first statement
  have first : ∃ (cs' : List Int) (a' b' : Int) (x2 : Slot), 0 ≤ a' ∧ (mIf (mT (mOp oLt (mD (mIx (mR (mVar 0)) (mL (eK (.int 1))))) (mL (eB 1))))
    (mIf (mT (mOp oGt (mLenL (mR (mIx (mR (mVar 0)) (mL (eK (.int 0)))))) (mL (eK (.int 0)))))
      (mSeq (mSet 2 (mD (mMth lPopAt (mR (mIx (mR (mVar 0)) (mL (eK (.int 0))))) (maD (mL (eK (.int 0))) maNil))))
      (mSeq (mPutI (mR (mVar 0)) (mL (eK (.int 1))) (mQ (mL (eIf (bT (eOp oGe (eB 2) (eK (.int 0)))) (eOp oMulS (eK (.int 2)) (eB 2)) (eOp oSub (eOp oMulS (eUn oNeg (eK (.int 2))) (eB 2)) (eK (.int 1)))))))
      (mPutI (mR (mVar 0)) (mL (eK (.int 2))) (mQ (mOp oMod (mF cInt (maD (mOp oAdd (mOp oMulS (mD (mIx (mR (mVar 0)) (mL (eK (.int 2))))) (mL (eK (.int 69621)))) (mD (mIx (mR (mVar 0)) (mL (eK (.int 1)))))) maNil)) (mL (eK (.int 2147483647))))))))
      (mSeq (mPutI (mR (mVar 0)) (mL (eK (.int 2))) (mQ (mOp oMod (mF cInt (maD (mOp oAdd (mOp oMulS (mD (mIx (mR (mVar 0)) (mL (eK (.int 2))))) (mL (eK (.int 48271)))) (mL (eK (.int 11)))) maNil)) (mL (eK (.int 2147483647))))))
      (mPutI (mR (mVar 0)) (mL (eK (.int 1))) (mQ (mOp oMod (mF cInt (maD (mOp oMulS (mD (mIx (mR (mVar 0)) (mL (eK (.int 2))))) (mD (mIx (mR (mVar 0)) (mL (eK (.int 2)))))) maNil)) (mL (eK (.int 1000003))))))))
    mNext) [.st h, .bor (.int m), .un, .un] (StW w h0 h cs a b) = some (.nx [.st h, .bor (.int m), x2, .un], StW w h0 h cs' a' b') := by
    by_cases c : a < m
    · have t1 : (mT (mOp oLt (mD (mIx (mR (mVar 0)) (mL (eK (.int 1))))) (mL (eB 1)))) [.st h, .bor (.int m), .un, .un] (StW w h0 h cs a b) = some (true, StW w h0 h cs a b) := by simp -implicitDefEqProofs only [eK_r, eV_0, eV_s, eB_0v, eB_0b, eB_0p, eB_0o, eB_s, eP_0v, eP_0b, eP_s, eS_0, eS_s, getS_0, getS_s, aNil_r, aCons_r, eOp_r, eUn_r, eCall_r, eBm_r, eTup_r, eLst_r, eIf_r, eAnd_r, eOr_r, eNot_r, eIs_r, eChain_r, eSl_r, oNo_r, oSo_r, asI_r, bT_r, bV_r, bYes_r, asB_r, truth_b, truth_l, truth_t, truth_n, truth_i, bAnd_r, bOr_r, bNot_r, oAdd_i, oSub_i, oNeg_i, oLt_i, oLe_i, oGt_i, oGe_i, cInt_i, cInt_b, cLen_l, cLen_t, cList_l, cList_t, cMax2_i, cMin2_i, cAbs_i, isT_int_i, isT_bool_i, isT_bool_b, isT_int_b, isT_tuple_t, isT_list_l, oEq_i, oNe_i, oEq_b, oNe_b, oIsN_n, oNotN_n, oIsN_i, oNotN_i, oIsB_b, oNotB_b, sSeqn_r, sNext_r, sBrk_r, sCnt_r, sRetN_r, sExpr_r, sRet_r, sRetOwn_r, sIf_r, sSet_r, sOwn_r, sAsg_r, gV_r, gT_r, gsNil_r, gsCons_r, sFz_r, sAug_r, addI_r, subI_r, sSeq_r, sArgs_r, itemsOf_l, itemsOf_t, sMut_r, fApp_r, Option.bind_some, Option.map_some, List.length_cons, List.length_nil, Nat.zero_add, Nat.reduceAdd, Nat.reduceLT, Nat.reduceLeDiff, List.set_cons_zero, List.set_cons_succ, if_true, Bool.false_eq_true, if_false, Bool.not_true, Bool.not_false, decide_true, decide_false, reduceCtorEq, unD_nil, unD_d, mL_r, mLB_r, mOp_r, mUn_r, mT_r, mV_r, mNot_r, mAndB_r, mOrB_r, mIte_r, maNil_r, maD_r, mF_r, mFK_r, mQ_r, mQR_r, mRv_0, mRv_s, mAndV_r, mOrV_r, mNotV_r, mNext_r, mIf_r, mSet_r, mOwn_r, mAny_r, mAsg_r, mRet_r, List.cons_append, List.nil_append, List.append_nil, i1, c]
      cases cs with
      | nil =>
        have t2 : (mT (mOp oGt (mLenL (mR (mIx (mR (mVar 0)) (mL (eK (.int 0)))))) (mL (eK (.int 0))))) [.st h, .bor (.int m), .un, .un] (StW w h0 h [] a b) = some (false, StW w h0 h [] a b) := by
          have e := mLenL_eq (i0 [.bor (.int m), .un, .un] [] a b) (StW_0 hne l0 ..)
          simp -implicitDefEqProofs only [eK_r, eV_0, eV_s, eB_0v, eB_0b, eB_0p, eB_0o, eB_s, eP_0v, eP_0b, eP_s, eS_0, eS_s, getS_0, getS_s, aNil_r, aCons_r, eOp_r, eUn_r, eCall_r, eBm_r, eTup_r, eLst_r, eIf_r, eAnd_r, eOr_r, eNot_r, eIs_r, eChain_r, eSl_r, oNo_r, oSo_r, asI_r, bT_r, bV_r, bYes_r, asB_r, truth_b, truth_l, truth_t, truth_n, truth_i, bAnd_r, bOr_r, bNot_r, oAdd_i, oSub_i, oNeg_i, oLt_i, oLe_i, oGt_i, oGe_i, cInt_i, cInt_b, cLen_l, cLen_t, cList_l, cList_t, cMax2_i, cMin2_i, cAbs_i, isT_int_i, isT_bool_i, isT_bool_b, isT_int_b, isT_tuple_t, isT_list_l, oEq_i, oNe_i, oEq_b, oNe_b, oIsN_n, oNotN_n, oIsN_i, oNotN_i, oIsB_b, oNotB_b, sSeqn_r, sNext_r, sBrk_r, sCnt_r, sRetN_r, sExpr_r, sRet_r, sRetOwn_r, sIf_r, sSet_r, sOwn_r, sAsg_r, gV_r, gT_r, gsNil_r, gsCons_r, sFz_r, sAug_r, addI_r, subI_r, sSeq_r, sArgs_r, itemsOf_l, itemsOf_t, sMut_r, fApp_r, Option.bind_some, Option.map_some, List.length_cons, List.length_nil, Nat.zero_add, Nat.reduceAdd, Nat.reduceLT, Nat.reduceLeDiff, List.set_cons_zero, List.set_cons_succ, if_true, Bool.false_eq_true, if_false, Bool.not_true, Bool.not_false, decide_true, decide_false, reduceCtorEq, unD_nil, unD_d, mL_r, mLB_r, mOp_r, mUn_r, mT_r, mV_r, mNot_r, mAndB_r, mOrB_r, mIte_r, maNil_r, maD_r, mF_r, mFK_r, mQ_r, mQR_r, mRv_0, mRv_s, mAndV_r, mOrV_r, mNotV_r, mNext_r, mIf_r, mSet_r, mOwn_r, mAny_r, mAsg_r, mRet_r, List.cons_append, List.nil_append, List.append_nil, e, show ((0 : Int) < (((([] : List Int).map fun i => WV.d (.int i)).length : Nat) : Int)) = False by simp]
        have m1 : oMulS (.int b) (.int 48271) = some (.int (b * 48271)) := oMul_r (by omega) (by omega)
        have m2 : oMod (.int (b * 48271 + 11)) (.int 2147483647) = some (.int ((b * 48271 + 11) % 2147483647)) := oMod_i (by omega)
        have hb1 := Int.emod_nonneg (b * 48271 + 11) (show (2147483647 : Int) ≠ 0 by decide)
        have hb2 := Int.emod_lt_of_pos (b * 48271 + 11) (show (0 : Int) < 2147483647 by decide)
        generalize (b * 48271 + 11) % 2147483647 = b' at *
        have m3 : oMulS (.int b') (.int b') = some (.int (b' * b')) := oMul_r (by omega) (by omega)
        have m4 : oMod (.int (b' * b')) (.int 1000003) = some (.int (b' * b' % 1000003)) := oMod_i (by omega)
        refine ⟨[], b' * b' % 1000003, b', .un, Int.emod_nonneg _ (by decide), ?_⟩
        rw [mIf_t t1, mIf_f t2]
        rw [mseq_nx (p2 [.bor (.int m), .un, .un] [] a b b' _ _ (by simp -implicitDefEqProofs only [eK_r, eV_0, eV_s, eB_0v, eB_0b, eB_0p, eB_0o, eB_s, eP_0v, eP_0b, eP_s, eS_0, eS_s, getS_0, getS_s, aNil_r, aCons_r, eOp_r, eUn_r, eCall_r, eBm_r, eTup_r, eLst_r, eIf_r, eAnd_r, eOr_r, eNot_r, eIs_r, eChain_r, eSl_r, oNo_r, oSo_r, asI_r, bT_r, bV_r, bYes_r, asB_r, truth_b, truth_l, truth_t, truth_n, truth_i, bAnd_r, bOr_r, bNot_r, oAdd_i, oSub_i, oNeg_i, oLt_i, oLe_i, oGt_i, oGe_i, cInt_i, cInt_b, cLen_l, cLen_t, cList_l, cList_t, cMax2_i, cMin2_i, cAbs_i, isT_int_i, isT_bool_i, isT_bool_b, isT_int_b, isT_tuple_t, isT_list_l, oEq_i, oNe_i, oEq_b, oNe_b, oIsN_n, oNotN_n, oIsN_i, oNotN_i, oIsB_b, oNotB_b, sSeqn_r, sNext_r, sBrk_r, sCnt_r, sRetN_r, sExpr_r, sRet_r, sRetOwn_r, sIf_r, sSet_r, sOwn_r, sAsg_r, gV_r, gT_r, gsNil_r, gsCons_r, sFz_r, sAug_r, addI_r, subI_r, sSeq_r, sArgs_r, itemsOf_l, itemsOf_t, sMut_r, fApp_r, Option.bind_some, Option.map_some, List.length_cons, List.length_nil, Nat.zero_add, Nat.reduceAdd, Nat.reduceLT, Nat.reduceLeDiff, List.set_cons_zero, List.set_cons_succ, if_true, Bool.false_eq_true, if_false, Bool.not_true, Bool.not_false, decide_true, decide_false, reduceCtorEq, unD_nil, unD_d, mL_r, mLB_r, mOp_r, mUn_r, mT_r, mV_r, mNot_r, mAndB_r, mOrB_r, mIte_r, maNil_r, maD_r, mF_r, mFK_r, mQ_r, mQR_r, mRv_0, mRv_s, mAndV_r, mOrV_r, mNotV_r, mNext_r, mIf_r, mSet_r, mOwn_r, mAny_r, mAsg_r, mRet_r, List.cons_append, List.nil_append, List.append_nil, i2, m1, m2]))]
        exact p1 [.bor (.int m), .un, .un] [] a b' _ _ _ (by simp -implicitDefEqProofs only [eK_r, eV_0, eV_s, eB_0v, eB_0b, eB_0p, eB_0o, eB_s, eP_0v, eP_0b, eP_s, eS_0, eS_s, getS_0, getS_s, aNil_r, aCons_r, eOp_r, eUn_r, eCall_r, eBm_r, eTup_r, eLst_r, eIf_r, eAnd_r, eOr_r, eNot_r, eIs_r, eChain_r, eSl_r, oNo_r, oSo_r, asI_r, bT_r, bV_r, bYes_r, asB_r, truth_b, truth_l, truth_t, truth_n, truth_i, bAnd_r, bOr_r, bNot_r, oAdd_i, oSub_i, oNeg_i, oLt_i, oLe_i, oGt_i, oGe_i, cInt_i, cInt_b, cLen_l, cLen_t, cList_l, cList_t, cMax2_i, cMin2_i, cAbs_i, isT_int_i, isT_bool_i, isT_bool_b, isT_int_b, isT_tuple_t, isT_list_l, oEq_i, oNe_i, oEq_b, oNe_b, oIsN_n, oNotN_n, oIsN_i, oNotN_i, oIsB_b, oNotB_b, sSeqn_r, sNext_r, sBrk_r, sCnt_r, sRetN_r, sExpr_r, sRet_r, sRetOwn_r, sIf_r, sSet_r, sOwn_r, sAsg_r, gV_r, gT_r, gsNil_r, gsCons_r, sFz_r, sAug_r, addI_r, subI_r, sSeq_r, sArgs_r, itemsOf_l, itemsOf_t, sMut_r, fApp_r, Option.bind_some, Option.map_some, List.length_cons, List.length_nil, Nat.zero_add, Nat.reduceAdd, Nat.reduceLT, Nat.reduceLeDiff, List.set_cons_zero, List.set_cons_succ, if_true, Bool.false_eq_true, if_false, Bool.not_true, Bool.not_false, decide_true, decide_false, reduceCtorEq, unD_nil, unD_d, mL_r, mLB_r, mOp_r, mUn_r, mT_r, mV_r, mNot_r, mAndB_r, mOrB_r, mIte_r, maNil_r, maD_r, mF_r, mFK_r, mQ_r, mQR_r, mRv_0, mRv_s, mAndV_r, mOrV_r, mNotV_r, mNext_r, mIf_r, mSet_r, mOwn_r, mAny_r, mAsg_r, mRet_r, List.cons_append, List.nil_append, List.append_nil, i2, m3, m4])
      | cons c0 cs =>
        have t2 : (mT (mOp oGt (mLenL (mR (mIx (mR (mVar 0)) (mL (eK (.int 0)))))) (mL (eK (.int 0))))) [.st h, .bor (.int m), .un, .un] (StW w h0 h (c0 :: cs) a b) = some (true, StW w h0 h (c0 :: cs) a b) := by
          have e := mLenL_eq (i0 [.bor (.int m), .un, .un] (c0 :: cs) a b) (StW_0 hne l0 ..)
          simp -implicitDefEqProofs only [eK_r, eV_0, eV_s, eB_0v, eB_0b, eB_0p, eB_0o, eB_s, eP_0v, eP_0b, eP_s, eS_0, eS_s, getS_0, getS_s, aNil_r, aCons_r, eOp_r, eUn_r, eCall_r, eBm_r, eTup_r, eLst_r, eIf_r, eAnd_r, eOr_r, eNot_r, eIs_r, eChain_r, eSl_r, oNo_r, oSo_r, asI_r, bT_r, bV_r, bYes_r, asB_r, truth_b, truth_l, truth_t, truth_n, truth_i, bAnd_r, bOr_r, bNot_r, oAdd_i, oSub_i, oNeg_i, oLt_i, oLe_i, oGt_i, oGe_i, cInt_i, cInt_b, cLen_l, cLen_t, cList_l, cList_t, cMax2_i, cMin2_i, cAbs_i, isT_int_i, isT_bool_i, isT_bool_b, isT_int_b, isT_tuple_t, isT_list_l, oEq_i, oNe_i, oEq_b, oNe_b, oIsN_n, oNotN_n, oIsN_i, oNotN_i, oIsB_b, oNotB_b, sSeqn_r, sNext_r, sBrk_r, sCnt_r, sRetN_r, sExpr_r, sRet_r, sRetOwn_r, sIf_r, sSet_r, sOwn_r, sAsg_r, gV_r, gT_r, gsNil_r, gsCons_r, sFz_r, sAug_r, addI_r, subI_r, sSeq_r, sArgs_r, itemsOf_l, itemsOf_t, sMut_r, fApp_r, Option.bind_some, Option.map_some, List.length_cons, List.length_nil, Nat.zero_add, Nat.reduceAdd, Nat.reduceLT, Nat.reduceLeDiff, List.set_cons_zero, List.set_cons_succ, if_true, Bool.false_eq_true, if_false, Bool.not_true, Bool.not_false, decide_true, decide_false, reduceCtorEq, unD_nil, unD_d, mL_r, mLB_r, mOp_r, mUn_r, mT_r, mV_r, mNot_r, mAndB_r, mOrB_r, mIte_r, maNil_r, maD_r, mF_r, mFK_r, mQ_r, mQR_r, mRv_0, mRv_s, mAndV_r, mOrV_r, mNotV_r, mNext_r, mIf_r, mSet_r, mOwn_r, mAny_r, mAsg_r, mRet_r, List.cons_append, List.nil_append, List.append_nil, e, show ((0 : Int) < (((((c0 :: cs) : List Int).map fun i => WV.d (.int i)).length : Nat) : Int)) = True from eq_true (by rw [List.map_cons, List.length_cons]; omega)]
        have pp : mD (mMth lPopAt (mR (mIx (mR (mVar 0)) (mL (eK (.int 0))))) (maD (mL (eK (.int 0))) maNil)) [.st h, .bor (.int m), .un, .un] (StW w h0 h (c0 :: cs) a b) = some (.int c0, StW w h0 h cs a b) := by
          rw [← StW_s0 hne (c0 :: cs) cs a b]
          refine mD_eq (mMth_eq (args := [.d (.int 0)]) (l' := cs.map fun i => .d (.int i)) (i0 _ _ _ _) (StW_0 hne l0 ..) rfl (StW_0 hne l0 ..) ?_)
          rw [List.map_cons]
          unfold lPopAt
          simp [seqIndex?]
        obtain ⟨a', ha', hv⟩ : ∃ a' : Int, 0 ≤ a' ∧ (eIf (bT (eOp oGe (eB 2) (eK (.int 0)))) (eOp oMulS (eK (.int 2)) (eB 2)) (eOp oSub (eOp oMulS (eUn oNeg (eK (.int 2))) (eB 2)) (eK (.int 1)))) [.st h, .bor (.int m), .val (.int c0), .un] = some (.int a') := by
          have m1 : oMulS (.int 2) (.int c0) = some (.int (2 * c0)) := oMul_l (by omega) (by omega)
          have m2 : oMulS (.int (-2)) (.int c0) = some (.int (-2 * c0)) := oMul_l (by omega) (by omega)
          by_cases z : 0 ≤ c0
          · exact ⟨2 * c0, by omega, by simp -implicitDefEqProofs only [eK_r, eV_0, eV_s, eB_0v, eB_0b, eB_0p, eB_0o, eB_s, eP_0v, eP_0b, eP_s, eS_0, eS_s, getS_0, getS_s, aNil_r, aCons_r, eOp_r, eUn_r, eCall_r, eBm_r, eTup_r, eLst_r, eIf_r, eAnd_r, eOr_r, eNot_r, eIs_r, eChain_r, eSl_r, oNo_r, oSo_r, asI_r, bT_r, bV_r, bYes_r, asB_r, truth_b, truth_l, truth_t, truth_n, truth_i, bAnd_r, bOr_r, bNot_r, oAdd_i, oSub_i, oNeg_i, oLt_i, oLe_i, oGt_i, oGe_i, cInt_i, cInt_b, cLen_l, cLen_t, cList_l, cList_t, cMax2_i, cMin2_i, cAbs_i, isT_int_i, isT_bool_i, isT_bool_b, isT_int_b, isT_tuple_t, isT_list_l, oEq_i, oNe_i, oEq_b, oNe_b, oIsN_n, oNotN_n, oIsN_i, oNotN_i, oIsB_b, oNotB_b, sSeqn_r, sNext_r, sBrk_r, sCnt_r, sRetN_r, sExpr_r, sRet_r, sRetOwn_r, sIf_r, sSet_r, sOwn_r, sAsg_r, gV_r, gT_r, gsNil_r, gsCons_r, sFz_r, sAug_r, addI_r, subI_r, sSeq_r, sArgs_r, itemsOf_l, itemsOf_t, sMut_r, fApp_r, Option.bind_some, Option.map_some, List.length_cons, List.length_nil, Nat.zero_add, Nat.reduceAdd, Nat.reduceLT, Nat.reduceLeDiff, List.set_cons_zero, List.set_cons_succ, if_true, Bool.false_eq_true, if_false, Bool.not_true, Bool.not_false, decide_true, decide_false, reduceCtorEq, z, m1]⟩
          · exact ⟨-2 * c0 - 1, by omega, by simp -implicitDefEqProofs only [eK_r, eV_0, eV_s, eB_0v, eB_0b, eB_0p, eB_0o, eB_s, eP_0v, eP_0b, eP_s, eS_0, eS_s, getS_0, getS_s, aNil_r, aCons_r, eOp_r, eUn_r, eCall_r, eBm_r, eTup_r, eLst_r, eIf_r, eAnd_r, eOr_r, eNot_r, eIs_r, eChain_r, eSl_r, oNo_r, oSo_r, asI_r, bT_r, bV_r, bYes_r, asB_r, truth_b, truth_l, truth_t, truth_n, truth_i, bAnd_r, bOr_r, bNot_r, oAdd_i, oSub_i, oNeg_i, oLt_i, oLe_i, oGt_i, oGe_i, cInt_i, cInt_b, cLen_l, cLen_t, cList_l, cList_t, cMax2_i, cMin2_i, cAbs_i, isT_int_i, isT_bool_i, isT_bool_b, isT_int_b, isT_tuple_t, isT_list_l, oEq_i, oNe_i, oEq_b, oNe_b, oIsN_n, oNotN_n, oIsN_i, oNotN_i, oIsB_b, oNotB_b, sSeqn_r, sNext_r, sBrk_r, sCnt_r, sRetN_r, sExpr_r, sRet_r, sRetOwn_r, sIf_r, sSet_r, sOwn_r, sAsg_r, gV_r, gT_r, gsNil_r, gsCons_r, sFz_r, sAug_r, addI_r, subI_r, sSeq_r, sArgs_r, itemsOf_l, itemsOf_t, sMut_r, fApp_r, Option.bind_some, Option.map_some, List.length_cons, List.length_nil, Nat.zero_add, Nat.reduceAdd, Nat.reduceLT, Nat.reduceLeDiff, List.set_cons_zero, List.set_cons_succ, if_true, Bool.false_eq_true, if_false, Bool.not_true, Bool.not_false, decide_true, decide_false, reduceCtorEq, z, m2]⟩
        have m3 : oMulS (.int b) (.int 69621) = some (.int (b * 69621)) := oMul_r (by omega) (by omega)
        have m4 : oMod (.int (b * 69621 + a')) (.int 2147483647) = some (.int ((b * 69621 + a') % 2147483647)) := oMod_i (by omega)
        refine ⟨cs, a', (b * 69621 + a') % 2147483647, .val (.int c0), ha', ?_⟩
        rw [mIf_t t1, mIf_t t2]
        rw [mseq_nx (mSet_eq pp (by simp))]
        show mSeq _ _ [.st h, .bor (.int m), .val (.int c0), .un] _ = _
        rw [mseq_nx (p1 [.bor (.int m), .val (.int c0), .un] cs a b a' _ _ (by rw [mQ_r, mL_r, hv]; rfl))]
        exact p2 [.bor (.int m), .val (.int c0), .un] cs a' b _ _ _ (by simp -implicitDefEqProofs only [eK_r, eV_0, eV_s, eB_0v, eB_0b, eB_0p, eB_0o, eB_s, eP_0v, eP_0b, eP_s, eS_0, eS_s, getS_0, getS_s, aNil_r, aCons_r, eOp_r, eUn_r, eCall_r, eBm_r, eTup_r, eLst_r, eIf_r, eAnd_r, eOr_r, eNot_r, eIs_r, eChain_r, eSl_r, oNo_r, oSo_r, asI_r, bT_r, bV_r, bYes_r, asB_r, truth_b, truth_l, truth_t, truth_n, truth_i, bAnd_r, bOr_r, bNot_r, oAdd_i, oSub_i, oNeg_i, oLt_i, oLe_i, oGt_i, oGe_i, cInt_i, cInt_b, cLen_l, cLen_t, cList_l, cList_t, cMax2_i, cMin2_i, cAbs_i, isT_int_i, isT_bool_i, isT_bool_b, isT_int_b, isT_tuple_t, isT_list_l, oEq_i, oNe_i, oEq_b, oNe_b, oIsN_n, oNotN_n, oIsN_i, oNotN_i, oIsB_b, oNotB_b, sSeqn_r, sNext_r, sBrk_r, sCnt_r, sRetN_r, sExpr_r, sRet_r, sRetOwn_r, sIf_r, sSet_r, sOwn_r, sAsg_r, gV_r, gT_r, gsNil_r, gsCons_r, sFz_r, sAug_r, addI_r, subI_r, sSeq_r, sArgs_r, itemsOf_l, itemsOf_t, sMut_r, fApp_r, Option.bind_some, Option.map_some, List.length_cons, List.length_nil, Nat.zero_add, Nat.reduceAdd, Nat.reduceLT, Nat.reduceLeDiff, List.set_cons_zero, List.set_cons_succ, if_true, Bool.false_eq_true, if_false, Bool.not_true, Bool.not_false, decide_true, decide_false, reduceCtorEq, unD_nil, unD_d, mL_r, mLB_r, mOp_r, mUn_r, mT_r, mV_r, mNot_r, mAndB_r, mOrB_r, mIte_r, maNil_r, maD_r, mF_r, mFK_r, mQ_r, mQR_r, mRv_0, mRv_s, mAndV_r, mOrV_r, mNotV_r, mNext_r, mIf_r, mSet_r, mOwn_r, mAny_r, mAsg_r, mRet_r, List.cons_append, List.nil_append, List.append_nil, i1, i2, m3, m4])
    · refine ⟨cs, a, b, .un, ha, ?_⟩
      rw [mIf_f (w1 := StW w h0 h cs a b) (by simp -implicitDefEqProofs only [eK_r, eV_0, eV_s, eB_0v, eB_0b, eB_0p, eB_0o, eB_s, eP_0v, eP_0b, eP_s, eS_0, eS_s, getS_0, getS_s, aNil_r, aCons_r, eOp_r, eUn_r, eCall_r, eBm_r, eTup_r, eLst_r, eIf_r, eAnd_r, eOr_r, eNot_r, eIs_r, eChain_r, eSl_r, oNo_r, oSo_r, asI_r, bT_r, bV_r, bYes_r, asB_r, truth_b, truth_l, truth_t, truth_n, truth_i, bAnd_r, bOr_r, bNot_r, oAdd_i, oSub_i, oNeg_i, oLt_i, oLe_i, oGt_i, oGe_i, cInt_i, cInt_b, cLen_l, cLen_t, cList_l, cList_t, cMax2_i, cMin2_i, cAbs_i, isT_int_i, isT_bool_i, isT_bool_b, isT_int_b, isT_tuple_t, isT_list_l, oEq_i, oNe_i, oEq_b, oNe_b, oIsN_n, oNotN_n, oIsN_i, oNotN_i, oIsB_b, oNotB_b, sSeqn_r, sNext_r, sBrk_r, sCnt_r, sRetN_r, sExpr_r, sRet_r, sRetOwn_r, sIf_r, sSet_r, sOwn_r, sAsg_r, gV_r, gT_r, gsNil_r, gsCons_r, sFz_r, sAug_r, addI_r, subI_r, sSeq_r, sArgs_r, itemsOf_l, itemsOf_t, sMut_r, fApp_r, Option.bind_some, Option.map_some, List.length_cons, List.length_nil, Nat.zero_add, Nat.reduceAdd, Nat.reduceLT, Nat.reduceLeDiff, List.set_cons_zero, List.set_cons_succ, if_true, Bool.false_eq_true, if_false, Bool.not_true, Bool.not_false, decide_true, decide_false, reduceCtorEq, unD_nil, unD_d, mL_r, mLB_r, mOp_r, mUn_r, mT_r, mV_r, mNot_r, mAndB_r, mOrB_r, mIte_r, maNil_r, maD_r, mF_r, mFK_r, mQ_r, mQR_r, mRv_0, mRv_s, mAndV_r, mOrV_r, mNotV_r, mNext_r, mIf_r, mSet_r, mOwn_r, mAny_r, mAsg_r, mRet_r, List.cons_append, List.nil_append, List.append_nil, i1, c])]
      rfl
  obtain ⟨cs', a', b', x2, ha', first⟩ := first
  have m1 : oMod (.int a') (.int m) = some (.int (a' % m)) := oMod_i hm
  have m2 : oFdiv (.int a') (.int m) = some (.int (a' / m)) := oFdiv_i hm hm2
  refine ⟨a' % m, cs', a' / m, b', boxW_rt rfl ?_, Int.emod_nonneg _ (by omega), Int.emod_lt_of_pos _ hm, Int.ediv_nonneg ha' (by omega)⟩
  show B__law_next [.st h, .bor (.int m), .un, .un] (StW w h0 h cs a b) = _
  unfold B__law_next
  rw [mseq_nx first]
  rw [mseq_nx (mSet_eq (d := .int (a' % m)) (w1 := StW w h0 h cs' a' b') (by simp -implicitDefEqProofs only [eK_r, eV_0, eV_s, eB_0v, eB_0b, eB_0p, eB_0o, eB_s, eP_0v, eP_0b, eP_s, eS_0, eS_s, getS_0, getS_s, aNil_r, aCons_r, eOp_r, eUn_r, eCall_r, eBm_r, eTup_r, eLst_r, eIf_r, eAnd_r, eOr_r, eNot_r, eIs_r, eChain_r, eSl_r, oNo_r, oSo_r, asI_r, bT_r, bV_r, bYes_r, asB_r, truth_b, truth_l, truth_t, truth_n, truth_i, bAnd_r, bOr_r, bNot_r, oAdd_i, oSub_i, oNeg_i, oLt_i, oLe_i, oGt_i, oGe_i, cInt_i, cInt_b, cLen_l, cLen_t, cList_l, cList_t, cMax2_i, cMin2_i, cAbs_i, isT_int_i, isT_bool_i, isT_bool_b, isT_int_b, isT_tuple_t, isT_list_l, oEq_i, oNe_i, oEq_b, oNe_b, oIsN_n, oNotN_n, oIsN_i, oNotN_i, oIsB_b, oNotB_b, sSeqn_r, sNext_r, sBrk_r, sCnt_r, sRetN_r, sExpr_r, sRet_r, sRetOwn_r, sIf_r, sSet_r, sOwn_r, sAsg_r, gV_r, gT_r, gsNil_r, gsCons_r, sFz_r, sAug_r, addI_r, subI_r, sSeq_r, sArgs_r, itemsOf_l, itemsOf_t, sMut_r, fApp_r, Option.bind_some, Option.map_some, List.length_cons, List.length_nil, Nat.zero_add, Nat.reduceAdd, Nat.reduceLT, Nat.reduceLeDiff, List.set_cons_zero, List.set_cons_succ, if_true, Bool.false_eq_true, if_false, Bool.not_true, Bool.not_false, decide_true, decide_false, reduceCtorEq, unD_nil, unD_d, mL_r, mLB_r, mOp_r, mUn_r, mT_r, mV_r, mNot_r, mAndB_r, mOrB_r, mIte_r, maNil_r, maD_r, mF_r, mFK_r, mQ_r, mQR_r, mRv_0, mRv_s, mAndV_r, mOrV_r, mNotV_r, mNext_r, mIf_r, mSet_r, mOwn_r, mAny_r, mAsg_r, mRet_r, List.cons_append, List.nil_append, List.append_nil, i1, m1]) (by simp))]
  show mSeq _ _ [.st h, .bor (.int m), x2, .val (.int (a' % m))] _ = _
  rw [mseq_nx (p1 [.bor (.int m), x2, .val (.int (a' % m))] cs' a' b' (a' / m) _ _ (by simp -implicitDefEqProofs only [eK_r, eV_0, eV_s, eB_0v, eB_0b, eB_0p, eB_0o, eB_s, eP_0v, eP_0b, eP_s, eS_0, eS_s, getS_0, getS_s, aNil_r, aCons_r, eOp_r, eUn_r, eCall_r, eBm_r, eTup_r, eLst_r, eIf_r, eAnd_r, eOr_r, eNot_r, eIs_r, eChain_r, eSl_r, oNo_r, oSo_r, asI_r, bT_r, bV_r, bYes_r, asB_r, truth_b, truth_l, truth_t, truth_n, truth_i, bAnd_r, bOr_r, bNot_r, oAdd_i, oSub_i, oNeg_i, oLt_i, oLe_i, oGt_i, oGe_i, cInt_i, cInt_b, cLen_l, cLen_t, cList_l, cList_t, cMax2_i, cMin2_i, cAbs_i, isT_int_i, isT_bool_i, isT_bool_b, isT_int_b, isT_tuple_t, isT_list_l, oEq_i, oNe_i, oEq_b, oNe_b, oIsN_n, oNotN_n, oIsN_i, oNotN_i, oIsB_b, oNotB_b, sSeqn_r, sNext_r, sBrk_r, sCnt_r, sRetN_r, sExpr_r, sRet_r, sRetOwn_r, sIf_r, sSet_r, sOwn_r, sAsg_r, gV_r, gT_r, gsNil_r, gsCons_r, sFz_r, sAug_r, addI_r, subI_r, sSeq_r, sArgs_r, itemsOf_l, itemsOf_t, sMut_r, fApp_r, Option.bind_some, Option.map_some, List.length_cons, List.length_nil, Nat.zero_add, Nat.reduceAdd, Nat.reduceLT, Nat.reduceLeDiff, List.set_cons_zero, List.set_cons_succ, if_true, Bool.false_eq_true, if_false, Bool.not_true, Bool.not_false, decide_true, decide_false, reduceCtorEq, unD_nil, unD_d, mL_r, mLB_r, mOp_r, mUn_r, mT_r, mV_r, mNot_r, mAndB_r, mOrB_r, mIte_r, maNil_r, maD_r, mF_r, mFK_r, mQ_r, mQR_r, mRv_0, mRv_s, mAndV_r, mOrV_r, mNotV_r, mNext_r, mIf_r, mSet_r, mOwn_r, mAny_r, mAsg_r, mRet_r, List.cons_append, List.nil_append, List.append_nil, i1, m2]))]
  simp -implicitDefEqProofs only [eK_r, eV_0, eV_s, eB_0v, eB_0b, eB_0p, eB_0o, eB_s, eP_0v, eP_0b, eP_s, eS_0, eS_s, getS_0, getS_s, aNil_r, aCons_r, eOp_r, eUn_r, eCall_r, eBm_r, eTup_r, eLst_r, eIf_r, eAnd_r, eOr_r, eNot_r, eIs_r, eChain_r, eSl_r, oNo_r, oSo_r, asI_r, bT_r, bV_r, bYes_r, asB_r, truth_b, truth_l, truth_t, truth_n, truth_i, bAnd_r, bOr_r, bNot_r, oAdd_i, oSub_i, oNeg_i, oLt_i, oLe_i, oGt_i, oGe_i, cInt_i, cInt_b, cLen_l, cLen_t, cList_l, cList_t, cMax2_i, cMin2_i, cAbs_i, isT_int_i, isT_bool_i, isT_bool_b, isT_int_b, isT_tuple_t, isT_list_l, oEq_i, oNe_i, oEq_b, oNe_b, oIsN_n, oNotN_n, oIsN_i, oNotN_i, oIsB_b, oNotB_b, sSeqn_r, sNext_r, sBrk_r, sCnt_r, sRetN_r, sExpr_r, sRet_r, sRetOwn_r, sIf_r, sSet_r, sOwn_r, sAsg_r, gV_r, gT_r, gsNil_r, gsCons_r, sFz_r, sAug_r, addI_r, subI_r, sSeq_r, sArgs_r, itemsOf_l, itemsOf_t, sMut_r, fApp_r, Option.bind_some, Option.map_some, List.length_cons, List.length_nil, Nat.zero_add, Nat.reduceAdd, Nat.reduceLT, Nat.reduceLeDiff, List.set_cons_zero, List.set_cons_succ, if_true, Bool.false_eq_true, if_false, Bool.not_true, Bool.not_false, decide_true, decide_false, reduceCtorEq, unD_nil, unD_d, mL_r, mLB_r, mOp_r, mUn_r, mT_r, mV_r, mNot_r, mAndB_r, mOrB_r, mIte_r, maNil_r, maD_r, mF_r, mFK_r, mQ_r, mQR_r, mRv_0, mRv_s, mAndV_r, mOrV_r, mNotV_r, mNext_r, mIf_r, mSet_r, mOwn_r, mAny_r, mAsg_r, mRet_r, List.cons_append, List.nil_append, List.append_nil]
end
/-! ### texts, by their signs -/
def tS (l : List Nat) : PyData := .str ⟨l.toArray⟩
theorem tLen1 (l : List Nat) : (⟨l.toArray⟩ : Str).length = l.length := by simp [Str.length]
theorem tAdd (a b : List Nat) (h : a.length + b.length ≤ 1000000) : oAdd (tS a) (tS b) = some (tS (a ++ b)) := by
  unfold tS oAdd
  simp only []
  rw [tLen1, tLen1, if_pos (by rw [sizeLine_eq]; omega)]
  congr 2
  show (⟨a.toArray ++ b.toArray⟩ : Str) = _
  rw [List.append_toArray]
theorem tIx (l : List Nat) (i : Int) (c : Nat) (hl : l.length ≤ 1000000) (h : atI l i = some c) : oIx (tS l) (.int i) = some (tS [c]) := by
  unfold tS oIx
  simp only []
  rw [tLen1, if_pos (by rw [sizeLine_eq]; omega), h]; rfl
theorem tMul (l : List Nat) (n : Int) (h0 : 0 ≤ n) (h1 : n ≤ 1000) (h2 : l.length ≤ 10000) : oMulS (tS l) (.int n) = some (tS (List.replicate n.toNat l).flatten) := by
  unfold tS oMulS
  simp only []
  rw [if_pos ⟨h0, h1, by rw [tLen1]; exact h2⟩]; rfl
theorem tSl (l : List Nat) (lo hi : Option Int) (hl : l.length ≤ 1000000) : oSl (tS l) lo hi = some (tS (cutG l lo hi)) := by
  unfold tS oSl
  simp only []
  rw [tLen1, if_pos (by rw [sizeLine_eq]; omega)]
  congr 2
theorem tLen (l : List Nat) (h : l.length ≤ 1000000) : cLen [tS l] = some (.int (l.length : Nat)) := by
  unfold tS cLen
  simp only []
  rw [tLen1, if_pos (by rw [sizeLine_eq]; omega)]
theorem tItems (l : List Nat) : itemsOf (tS l) = some (l.map fun c => tS [c]) := rfl
theorem tOk {l : List Nat} (h : ∀ c ∈ l, c < 128) : PyData.strOk ⟨l.toArray⟩ = true := by
  unfold PyData.strOk
  simp
  intro c hc
  exact Nat.lt_trans (h c hc) (by decide)
theorem tEq {a b : List Nat} (ha : ∀ c ∈ a, c < 128) (hb : ∀ c ∈ b, c < 128) : oEq (tS a) (tS b) = some (.bool (decide (a = b))) := by
  have h1 : clean 9 (tS a) = true := by simpa [tS, clean] using tOk ha
  have h2 : clean 9 (tS b) = true := by simpa [tS, clean] using tOk hb
  rw [oEq_c h1 h2, eqv_dec h1 h2 (a = b) (by simp [tS])]
theorem tIn (c : Nat) (l : List Nat) : oIn (tS [c]) (tS l) = some (.bool (decide (c ∈ l))) := by
  unfold tS oIn oInS
  simp
theorem lit (x : String) (l : List Nat) (h : Str.ofString x = ⟨l.toArray⟩) : PyData.str (Str.ofString x) = tS l := by rw [h]; rfl
def Asc (l : List Nat) : Prop := ∀ c ∈ l, c < 128
theorem Asc.app {a b : List Nat} (ha : Asc a) (hb : Asc b) : Asc (a ++ b) := fun c hc => (List.mem_append.mp hc).elim (ha c) (hb c)
theorem Asc.one {c : Nat} (h : c < 128) : Asc [c] := fun x hx => by rw [List.mem_singleton.mp hx]; exact h
theorem Asc.nil : Asc [] := fun x hx => by cases hx
/-! ### words, steps: plain -/
theorem lit_A : PyData.str (Str.ofString "") = tS [] := lit _ _ (by decide +kernel)
theorem lit_sp : PyData.str (Str.ofString " ") = tS [32] := lit _ _ (by decide +kernel)
theorem lit_gt : PyData.str (Str.ofString ">") = tS [62] := lit _ _ (by decide +kernel)
theorem lit_dot : PyData.str (Str.ofString ".") = tS [46] := lit _ _ (by decide +kernel)
theorem lit_star : PyData.str (Str.ofString "*") = tS [42] := lit _ _ (by decide +kernel)
def wdL (l : List Nat) : Bool := decide (1 ≤ l.length) && decide (l.length ≤ 12) && l.all (signRng "a" "z")
theorem sign_az (c : Nat) : signRng "a" "z" c = true ↔ 97 ≤ c ∧ c ≤ 122 := by
  have h1 : Str.cps (Str.ofString "a") = #[97] := by decide +kernel
  have h2 : Str.cps (Str.ofString "z") = #[122] := by decide +kernel
  unfold signRng
  rw [h1, h2]
  simp only [Bool.and_eq_true, Bool.not_eq_true', decide_eq_false_iff_not, List.cons_lt_cons_iff, List.not_lt_nil, and_false, or_false]
  omega
structure Wd1 (l : List Nat) : Prop where
  lo : 1 ≤ l.length
  hi : l.length ≤ 12
  ch : ∀ c ∈ l, 97 ≤ c ∧ c ≤ 122
theorem wd1_iff (l : List Nat) : wdL l = true ↔ Wd1 l := by
  unfold wdL
  simp only [Bool.and_eq_true, decide_eq_true_eq, List.all_eq_true, sign_az]
  exact ⟨fun ⟨⟨a, b⟩, c⟩ => ⟨a, b, c⟩, fun ⟨a, b, c⟩ => ⟨⟨a, b⟩, c⟩⟩
abbrev Stp := List Nat × List Nat × List (List Nat)
def enc (s : Stp) : PyData := .tuple [tS s.1, tS s.2.1, .tuple (s.2.2.map tS)]
def dots (ms : List (List Nat)) : List Nat := (ms.map fun m => 46 :: m).flatten
def swL (s : Stp) : List Nat := s.2.1 ++ dots s.2.2
def jL (j : List Nat) : List Nat := if j = [62] then [32, 62, 32] else j
def wrL (l : List Stp) : List Nat := (l.map fun s => jL s.1 ++ swL s).flatten
def Jok (j : List Nat) : Prop := j = [] ∨ j = [32] ∨ j = [62]
theorem dots_cons (m : List Nat) (ms : List (List Nat)) : dots (m :: ms) = 46 :: m ++ dots ms := by unfold dots; rw [List.map_cons, List.flatten_cons]
theorem wrL_cons (s : Stp) (l : List Stp) : wrL (s :: l) = (jL s.1 ++ swL s) ++ wrL l := by unfold wrL; rw [List.map_cons, List.flatten_cons]
theorem wrL_app (a b : List Stp) : wrL (a ++ b) = wrL a ++ wrL b := by unfold wrL; rw [List.map_append, List.flatten_append]
structure Sok1 (n : List Nat) (ms : List (List Nat)) : Prop where
  n : n = [42] ∧ ms = [] ∨ (n = [] ∧ ms ≠ [] ∨ Wd1 n)
  m : ∀ m ∈ ms, Wd1 m
  d : ms.Nodup
theorem Wd1.no {l : List Nat} (h : Wd1 l) {c : Nat} (hc : c < 97) : c ∉ l := fun z => by have := (h.ch c z).1; omega
theorem Wd1.asc {l : List Nat} (h : Wd1 l) : Asc l := fun c hc => by have := (h.ch c hc).2; omega
theorem dots_mem {ms : List (List Nat)} (h : ∀ m ∈ ms, Wd1 m) {c : Nat} (hc : c ∈ dots ms) : c = 46 ∨ 97 ≤ c ∧ c ≤ 122 := by
  unfold dots at hc
  obtain ⟨x, hx, hc⟩ := List.mem_flatten.mp hc
  obtain ⟨m, hm, rfl⟩ := List.mem_map.mp hx
  rcases List.mem_cons.mp hc with rfl | hc
  · exact .inl rfl
  · exact .inr ((h m hm).ch c hc)
theorem sw_mem {j n : List Nat} {ms : List (List Nat)} (h : Sok1 n ms) {c : Nat} (hc : c ∈ swL (j, n, ms)) : c = 42 ∨ c = 46 ∨ 97 ≤ c ∧ c ≤ 122 := by
  rcases List.mem_append.mp hc with hc | hc
  · rcases h.n with ⟨e, _⟩ | ⟨e, _⟩ | e
    · have hc : c ∈ n := hc
      rw [e] at hc
      exact .inl (List.mem_singleton.mp hc)
    · have hc : c ∈ n := hc
      rw [e] at hc; cases hc
    · exact .inr (.inr (e.ch c hc))
  · exact (dots_mem h.m hc).elim (fun z => .inr (.inl z)) fun z => .inr (.inr z)
theorem sw_asc {j n : List Nat} {ms : List (List Nat)} (h : Sok1 n ms) : Asc (swL (j, n, ms)) := fun c hc => by
  rcases sw_mem h hc with e | e | e <;> omega
/-- what is not a star has no star -/
theorem sw_star {j n : List Nat} {ms : List (List Nat)} (h : Sok1 n ms) (hn : n ≠ [42]) : swL (j, n, ms) ≠ [42] := fun e => by
  have hc : (42 : Nat) ∈ swL (j, n, ms) := by rw [e]; exact List.mem_cons_self
  rcases List.mem_append.mp hc with hc | hc
  · rcases h.n with ⟨z, _⟩ | ⟨z, _⟩ | z
    · exact hn z
    · have hc : (42 : Nat) ∈ n := hc
      rw [z] at hc; cases hc
    · exact z.no (by decide) hc
  · rcases dots_mem h.m hc with z | z <;> omega
theorem joinL_cons (c : Nat) : ∀ (n : List Nat) (ms : List (List Nat)), TL.joinL [c] (n :: ms) = n ++ (ms.map fun m => c :: m).flatten
  | n, [] => by simp [TL.joinL]
  | n, m :: ms => by
    show n ++ ([c] ++ TL.joinL [c] (m :: ms)) = _
    rw [joinL_cons c m ms, List.map_cons, List.flatten_cons]
    simp
theorem split_codes (c : Nat) (hc : c < 256) (n : List Nat) (ms : List (List Nat)) (hp : ∀ p ∈ n :: ms, c ∉ p) (hz : (n ++ (ms.map fun m => c :: m).flatten).length ≤ 10000) : oSplit (tS (n ++ (ms.map fun m => c :: m).flatten)) (tS [c]) = some (.list ((n :: ms).map tS)) := by
  have ey : TL.tl (⟨[c].toArray⟩ : Str) = [c] := rfl
  have sj := TL.split_join (y := ⟨[c].toArray⟩) (s := c) (S := []) ey (by simp [hc]) (parts := (n :: ms).map fun l => (⟨l.toArray⟩ : Str)) (by simp) (fun p hp' => by
    obtain ⟨l, hl, rfl⟩ := List.mem_map.mp hp'
    exact hp l hl)
  have ej : Txt.join (⟨[c].toArray⟩ : Str) ((n :: ms).map fun l => (⟨l.toArray⟩ : Str)) = ⟨(n ++ (ms.map fun m => c :: m).flatten).toArray⟩ := by
    apply TL.ext_tl
    rw [TL.join_eq, TL.tl_join, List.map_map]
    show TL.joinL [c] ((n :: ms).map fun l => l) = _
    rw [List.map_id', joinL_cons]
  rw [ej] at sj
  unfold tS oSplit
  simp only []
  rw [if_pos ⟨rfl, by rw [tLen1, sizeLine_eq]; omega⟩, sj, List.map_map]
  rfl
/-! ### what the law writes -/
theorem wr1 (st j n f : Slot) : ∀ (ms : List (List Nat)) (acc : List Nat) (x : Slot), acc.length + (dots ms).length ≤ 10000 → ∃ x', forGo (gV 5) L__law_written_1 (ms.map tS) [st, .val (tS acc), j, n, f, x] = some (.nx [st, .val (tS (acc ++ dots ms)), j, n, f, x'])
  | [], acc, x, _ => ⟨x, by show some (Out.nx _) = _; rw [show dots [] = [] from rfl, List.append_nil]⟩
  | m :: ms, acc, x, hz => by
    rw [dots_cons] at hz ⊢
    simp only [List.length_append, List.length_cons] at hz
    obtain ⟨x', ih⟩ := wr1 st j n f ms (acc ++ [46] ++ m) (.val (tS m)) (by simp only [List.length_append, List.length_cons, List.length_nil]; omega)
    have a1 := tAdd acc [46] (by simp only [List.length_cons, List.length_nil]; omega)
    have a2 := tAdd (acc ++ [46]) m (by simp only [List.length_append, List.length_cons, List.length_nil]; omega)
    refine ⟨x', ?_⟩
    rw [List.map_cons, forGo]
    show (L__law_written_1 [st, .val (tS acc), j, n, f, .val (tS m)]).bind _ = _
    have e : L__law_written_1 [st, .val (tS acc), j, n, f, .val (tS m)] = some (.nx [st, .val (tS (acc ++ [46] ++ m)), j, n, f, .val (tS m)]) := by
      unfold L__law_written_1
      rw [lit_dot]
      simp -implicitDefEqProofs only [eK_r, eV_0, eV_s, eB_0v, eB_0b, eB_0p, eB_0o, eB_s, eP_0v, eP_0b, eP_s, eS_0, eS_s, getS_0, getS_s, aNil_r, aCons_r, eOp_r, eUn_r, eCall_r, eBm_r, eTup_r, eLst_r, eIf_r, eAnd_r, eOr_r, eNot_r, eIs_r, eChain_r, eSl_r, oNo_r, oSo_r, asI_r, bT_r, bV_r, bYes_r, asB_r, truth_b, truth_l, truth_t, truth_n, truth_i, bAnd_r, bOr_r, bNot_r, oAdd_i, oSub_i, oNeg_i, oLt_i, oLe_i, oGt_i, oGe_i, cInt_i, cInt_b, cLen_l, cLen_t, cList_l, cList_t, cMax2_i, cMin2_i, cAbs_i, isT_int_i, isT_bool_i, isT_bool_b, isT_int_b, isT_tuple_t, isT_list_l, oEq_i, oNe_i, oEq_b, oNe_b, oIsN_n, oNotN_n, oIsN_i, oNotN_i, oIsB_b, oNotB_b, sSeqn_r, sNext_r, sBrk_r, sCnt_r, sRetN_r, sExpr_r, sRet_r, sRetOwn_r, sIf_r, sSet_r, sOwn_r, sAsg_r, gV_r, gT_r, gsNil_r, gsCons_r, sFz_r, sAug_r, addI_r, subI_r, sSeq_r, sArgs_r, itemsOf_l, itemsOf_t, sMut_r, fApp_r, Option.bind_some, Option.map_some, List.length_cons, List.length_nil, Nat.zero_add, Nat.reduceAdd, Nat.reduceLT, Nat.reduceLeDiff, List.set_cons_zero, List.set_cons_succ, if_true, Bool.false_eq_true, if_false, Bool.not_true, Bool.not_false, decide_true, decide_false, reduceCtorEq, a1, a2]
    rw [e]
    show forGo _ _ _ _ = _
    rw [ih]
    simp
theorem jget (st t n f x : Slot) (j : List Nat) (h : Jok j) : eOp oDGet (eDsp [((eK (.str "")), (eK (.str ""))), ((eK (.str " ")), (eK (.str " "))), ((eK (.str ">")), (eK (.str " > ")))]) (eB 2) [st, t, .val (tS j), n, f, x] = some (tS (jL j)) := by
  rcases h with rfl | rfl | rfl <;> rfl
theorem wr2 (st : Slot) : ∀ (l : List Stp) (acc : List Nat) (j n f x : Slot), (∀ s ∈ l, Jok s.1) → acc.length + (wrL l).length ≤ 10000 → ∃ j' n' f' x', forGo (gT 3 (gsCons (gV 2) (gsCons (gV 3) (gsCons (gV 4) gsNil)))) L__law_written_2 (l.map enc) [st, .val (tS acc), j, n, f, x] = some (.nx [st, .val (tS (acc ++ wrL l)), j', n', f', x'])
  | [], acc, j, n, f, x, _, _ => ⟨j, n, f, x, by show some (Out.nx _) = _; rw [show wrL [] = [] from rfl, List.append_nil]⟩
  | s :: l, acc, j, n, f, x, hj, hz => by
    obtain ⟨j0, n0, ms⟩ := s
    rw [wrL_cons] at hz ⊢
    unfold swL at hz ⊢
    simp only [List.length_append] at hz
    have a1 := tAdd acc (jL j0) (by omega)
    have a2 := tAdd (acc ++ jL j0) n0 (by simp only [List.length_append]; omega)
    obtain ⟨x', e1⟩ := wr1 st (.val (tS j0)) (.val (tS n0)) (.val (.tuple (ms.map tS))) ms (acc ++ jL j0 ++ n0) x (by simp only [List.length_append]; omega)
    obtain ⟨j', n', f', x'', ih⟩ := wr2 st l (acc ++ jL j0 ++ n0 ++ dots ms) (.val (tS j0)) (.val (tS n0)) (.val (.tuple (ms.map tS))) x' (fun s hs => hj s (List.mem_cons_of_mem _ hs)) (by simp only [List.length_append]; omega)
    refine ⟨j', n', f', x'', ?_⟩
    rw [List.map_cons, forGo]
    show (L__law_written_2 [st, .val (tS acc), .val (tS j0), .val (tS n0), .val (.tuple (ms.map tS)), x]).bind _ = _
    have jg := jget st (.val (tS acc)) (.val (tS n0)) (.val (.tuple (ms.map tS))) x j0 (hj _ List.mem_cons_self)
    have e : L__law_written_2 [st, .val (tS acc), .val (tS j0), .val (tS n0), .val (.tuple (ms.map tS)), x] = some (.nx [st, .val (tS (acc ++ jL j0 ++ n0 ++ dots ms)), .val (tS j0), .val (tS n0), .val (.tuple (ms.map tS)), x']) := by
      unfold L__law_written_2
      rw [seq_nx (ρ' := [st, .val (tS (acc ++ jL j0 ++ n0)), .val (tS j0), .val (tS n0), .val (.tuple (ms.map tS)), x]) (by
        rw [sSet_r, eOp_r, eOp_r, jg]
        simp -implicitDefEqProofs only [eK_r, eV_0, eV_s, eB_0v, eB_0b, eB_0p, eB_0o, eB_s, eP_0v, eP_0b, eP_s, eS_0, eS_s, getS_0, getS_s, aNil_r, aCons_r, eOp_r, eUn_r, eCall_r, eBm_r, eTup_r, eLst_r, eIf_r, eAnd_r, eOr_r, eNot_r, eIs_r, eChain_r, eSl_r, oNo_r, oSo_r, asI_r, bT_r, bV_r, bYes_r, asB_r, truth_b, truth_l, truth_t, truth_n, truth_i, bAnd_r, bOr_r, bNot_r, oAdd_i, oSub_i, oNeg_i, oLt_i, oLe_i, oGt_i, oGe_i, cInt_i, cInt_b, cLen_l, cLen_t, cList_l, cList_t, cMax2_i, cMin2_i, cAbs_i, isT_int_i, isT_bool_i, isT_bool_b, isT_int_b, isT_tuple_t, isT_list_l, oEq_i, oNe_i, oEq_b, oNe_b, oIsN_n, oNotN_n, oIsN_i, oNotN_i, oIsB_b, oNotB_b, sSeqn_r, sNext_r, sBrk_r, sCnt_r, sRetN_r, sExpr_r, sRet_r, sRetOwn_r, sIf_r, sSet_r, sOwn_r, sAsg_r, gV_r, gT_r, gsNil_r, gsCons_r, sFz_r, sAug_r, addI_r, subI_r, sSeq_r, sArgs_r, itemsOf_l, itemsOf_t, sMut_r, fApp_r, Option.bind_some, Option.map_some, List.length_cons, List.length_nil, Nat.zero_add, Nat.reduceAdd, Nat.reduceLT, Nat.reduceLeDiff, List.set_cons_zero, List.set_cons_succ, if_true, Bool.false_eq_true, if_false, Bool.not_true, Bool.not_false, decide_true, decide_false, reduceCtorEq, a1, a2])]
      rw [sFor_r]
      simp -implicitDefEqProofs only [eK_r, eV_0, eV_s, eB_0v, eB_0b, eB_0p, eB_0o, eB_s, eP_0v, eP_0b, eP_s, eS_0, eS_s, getS_0, getS_s, aNil_r, aCons_r, eOp_r, eUn_r, eCall_r, eBm_r, eTup_r, eLst_r, eIf_r, eAnd_r, eOr_r, eNot_r, eIs_r, eChain_r, eSl_r, oNo_r, oSo_r, asI_r, bT_r, bV_r, bYes_r, asB_r, truth_b, truth_l, truth_t, truth_n, truth_i, bAnd_r, bOr_r, bNot_r, oAdd_i, oSub_i, oNeg_i, oLt_i, oLe_i, oGt_i, oGe_i, cInt_i, cInt_b, cLen_l, cLen_t, cList_l, cList_t, cMax2_i, cMin2_i, cAbs_i, isT_int_i, isT_bool_i, isT_bool_b, isT_int_b, isT_tuple_t, isT_list_l, oEq_i, oNe_i, oEq_b, oNe_b, oIsN_n, oNotN_n, oIsN_i, oNotN_i, oIsB_b, oNotB_b, sSeqn_r, sNext_r, sBrk_r, sCnt_r, sRetN_r, sExpr_r, sRet_r, sRetOwn_r, sIf_r, sSet_r, sOwn_r, sAsg_r, gV_r, gT_r, gsNil_r, gsCons_r, sFz_r, sAug_r, addI_r, subI_r, sSeq_r, sArgs_r, itemsOf_l, itemsOf_t, sMut_r, fApp_r, Option.bind_some, Option.map_some, List.length_cons, List.length_nil, Nat.zero_add, Nat.reduceAdd, Nat.reduceLT, Nat.reduceLeDiff, List.set_cons_zero, List.set_cons_succ, if_true, Bool.false_eq_true, if_false, Bool.not_true, Bool.not_false, decide_true, decide_false, reduceCtorEq, e1]
    rw [e]
    show forGo _ _ _ _ = _
    rw [ih]
    simp
theorem written_eq (l : List Stp) (hj : ∀ s ∈ l, Jok s.1) (hz : (wrL l).length ≤ 10000) : F__law_written [.list (l.map enc)] = some (tS (wrL l)) := by
  obtain ⟨j, n, f, x, e⟩ := wr2 (.bor (.list (l.map enc))) l [] .un .un .un .un hj (by simpa using hz)
  refine box_rt rfl ?_
  show B__law_written [.bor (.list (l.map enc)), .un, .un, .un, .un, .un] = _
  unfold B__law_written
  rw [lit_A]
  rw [seq_nx (ρ' := [.bor (.list (l.map enc)), .val (tS []), .un, .un, .un, .un]) (by simp -implicitDefEqProofs only [eK_r, eV_0, eV_s, eB_0v, eB_0b, eB_0p, eB_0o, eB_s, eP_0v, eP_0b, eP_s, eS_0, eS_s, getS_0, getS_s, aNil_r, aCons_r, eOp_r, eUn_r, eCall_r, eBm_r, eTup_r, eLst_r, eIf_r, eAnd_r, eOr_r, eNot_r, eIs_r, eChain_r, eSl_r, oNo_r, oSo_r, asI_r, bT_r, bV_r, bYes_r, asB_r, truth_b, truth_l, truth_t, truth_n, truth_i, bAnd_r, bOr_r, bNot_r, oAdd_i, oSub_i, oNeg_i, oLt_i, oLe_i, oGt_i, oGe_i, cInt_i, cInt_b, cLen_l, cLen_t, cList_l, cList_t, cMax2_i, cMin2_i, cAbs_i, isT_int_i, isT_bool_i, isT_bool_b, isT_int_b, isT_tuple_t, isT_list_l, oEq_i, oNe_i, oEq_b, oNe_b, oIsN_n, oNotN_n, oIsN_i, oNotN_i, oIsB_b, oNotB_b, sSeqn_r, sNext_r, sBrk_r, sCnt_r, sRetN_r, sExpr_r, sRet_r, sRetOwn_r, sIf_r, sSet_r, sOwn_r, sAsg_r, gV_r, gT_r, gsNil_r, gsCons_r, sFz_r, sAug_r, addI_r, subI_r, sSeq_r, sArgs_r, itemsOf_l, itemsOf_t, sMut_r, fApp_r, Option.bind_some, Option.map_some, List.length_cons, List.length_nil, Nat.zero_add, Nat.reduceAdd, Nat.reduceLT, Nat.reduceLeDiff, List.set_cons_zero, List.set_cons_succ, if_true, Bool.false_eq_true, if_false, Bool.not_true, Bool.not_false, decide_true, decide_false, reduceCtorEq])]
  rw [seq_nx (ρ' := [.bor (.list (l.map enc)), .val (tS (wrL l)), j, n, f, x]) (by
    rw [sFor_r]
    simp -implicitDefEqProofs only [eK_r, eV_0, eV_s, eB_0v, eB_0b, eB_0p, eB_0o, eB_s, eP_0v, eP_0b, eP_s, eS_0, eS_s, getS_0, getS_s, aNil_r, aCons_r, eOp_r, eUn_r, eCall_r, eBm_r, eTup_r, eLst_r, eIf_r, eAnd_r, eOr_r, eNot_r, eIs_r, eChain_r, eSl_r, oNo_r, oSo_r, asI_r, bT_r, bV_r, bYes_r, asB_r, truth_b, truth_l, truth_t, truth_n, truth_i, bAnd_r, bOr_r, bNot_r, oAdd_i, oSub_i, oNeg_i, oLt_i, oLe_i, oGt_i, oGe_i, cInt_i, cInt_b, cLen_l, cLen_t, cList_l, cList_t, cMax2_i, cMin2_i, cAbs_i, isT_int_i, isT_bool_i, isT_bool_b, isT_int_b, isT_tuple_t, isT_list_l, oEq_i, oNe_i, oEq_b, oNe_b, oIsN_n, oNotN_n, oIsN_i, oNotN_i, oIsB_b, oNotB_b, sSeqn_r, sNext_r, sBrk_r, sCnt_r, sRetN_r, sExpr_r, sRet_r, sRetOwn_r, sIf_r, sSet_r, sOwn_r, sAsg_r, gV_r, gT_r, gsNil_r, gsCons_r, sFz_r, sAug_r, addI_r, subI_r, sSeq_r, sArgs_r, itemsOf_l, itemsOf_t, sMut_r, fApp_r, Option.bind_some, Option.map_some, List.length_cons, List.length_nil, Nat.zero_add, Nat.reduceAdd, Nat.reduceLT, Nat.reduceLeDiff, List.set_cons_zero, List.set_cons_succ, if_true, Bool.false_eq_true, if_false, Bool.not_true, Bool.not_false, decide_true, decide_false, reduceCtorEq, e, List.nil_append])]
  simp -implicitDefEqProofs only [eK_r, eV_0, eV_s, eB_0v, eB_0b, eB_0p, eB_0o, eB_s, eP_0v, eP_0b, eP_s, eS_0, eS_s, getS_0, getS_s, aNil_r, aCons_r, eOp_r, eUn_r, eCall_r, eBm_r, eTup_r, eLst_r, eIf_r, eAnd_r, eOr_r, eNot_r, eIs_r, eChain_r, eSl_r, oNo_r, oSo_r, asI_r, bT_r, bV_r, bYes_r, asB_r, truth_b, truth_l, truth_t, truth_n, truth_i, bAnd_r, bOr_r, bNot_r, oAdd_i, oSub_i, oNeg_i, oLt_i, oLe_i, oGt_i, oGe_i, cInt_i, cInt_b, cLen_l, cLen_t, cList_l, cList_t, cMax2_i, cMin2_i, cAbs_i, isT_int_i, isT_bool_i, isT_bool_b, isT_int_b, isT_tuple_t, isT_list_l, oEq_i, oNe_i, oEq_b, oNe_b, oIsN_n, oNotN_n, oIsN_i, oNotN_i, oIsB_b, oNotB_b, sSeqn_r, sNext_r, sBrk_r, sCnt_r, sRetN_r, sExpr_r, sRet_r, sRetOwn_r, sIf_r, sSet_r, sOwn_r, sAsg_r, gV_r, gT_r, gsNil_r, gsCons_r, sFz_r, sAug_r, addI_r, subI_r, sSeq_r, sArgs_r, itemsOf_l, itemsOf_t, sMut_r, fApp_r, Option.bind_some, Option.map_some, List.length_cons, List.length_nil, Nat.zero_add, Nat.reduceAdd, Nat.reduceLT, Nat.reduceLeDiff, List.set_cons_zero, List.set_cons_succ, if_true, Bool.false_eq_true, if_false, Bool.not_true, Bool.not_false, decide_true, decide_false, reduceCtorEq]
/-! ### words -/
theorem isw_eq (l : List Nat) (w : Wd) (hw : hasTab "is_word" w = true) (hz : l.length ≤ 10000) : F_is_word [.d (tS l)] w = some (.d (.bool (wdL l)), w) := by
  refine boxW_rt rfl ?_
  show B_is_word [.val (tS l), .un] w = _
  have is : isT "str" (tS l) = some true := rfl
  have ln := tLen l (by omega)
  unfold B_is_word wdL
  by_cases c1 : 1 ≤ l.length
  · by_cases c2 : l.length ≤ 12
    · rw [mseq_nx (ρ' := [.val (tS l), .un]) (w1 := w) (by simp -implicitDefEqProofs only [eK_r, eV_0, eV_s, eB_0v, eB_0b, eB_0p, eB_0o, eB_s, eP_0v, eP_0b, eP_s, eS_0, eS_s, getS_0, getS_s, aNil_r, aCons_r, eOp_r, eUn_r, eCall_r, eBm_r, eTup_r, eLst_r, eIf_r, eAnd_r, eOr_r, eNot_r, eIs_r, eChain_r, eSl_r, oNo_r, oSo_r, asI_r, bT_r, bV_r, bYes_r, asB_r, truth_b, truth_l, truth_t, truth_n, truth_i, bAnd_r, bOr_r, bNot_r, oAdd_i, oSub_i, oNeg_i, oLt_i, oLe_i, oGt_i, oGe_i, cInt_i, cInt_b, cLen_l, cLen_t, cList_l, cList_t, cMax2_i, cMin2_i, cAbs_i, isT_int_i, isT_bool_i, isT_bool_b, isT_int_b, isT_tuple_t, isT_list_l, oEq_i, oNe_i, oEq_b, oNe_b, oIsN_n, oNotN_n, oIsN_i, oNotN_i, oIsB_b, oNotB_b, sSeqn_r, sNext_r, sBrk_r, sCnt_r, sRetN_r, sExpr_r, sRet_r, sRetOwn_r, sIf_r, sSet_r, sOwn_r, sAsg_r, gV_r, gT_r, gsNil_r, gsCons_r, sFz_r, sAug_r, addI_r, subI_r, sSeq_r, sArgs_r, itemsOf_l, itemsOf_t, sMut_r, fApp_r, Option.bind_some, Option.map_some, List.length_cons, List.length_nil, Nat.zero_add, Nat.reduceAdd, Nat.reduceLT, Nat.reduceLeDiff, List.set_cons_zero, List.set_cons_succ, if_true, Bool.false_eq_true, if_false, Bool.not_true, Bool.not_false, decide_true, decide_false, reduceCtorEq, unD_nil, unD_d, mL_r, mLB_r, mOp_r, mUn_r, mT_r, mV_r, mNot_r, mAndB_r, mOrB_r, mIte_r, maNil_r, maD_r, mF_r, mFK_r, mQ_r, mQR_r, mRv_0, mRv_s, mAndV_r, mOrV_r, mNotV_r, mNext_r, mIf_r, mSet_r, mOwn_r, mAny_r, mAsg_r, mRet_r, List.cons_append, List.nil_append, List.append_nil, is, ln, show ((1 : Int) ≤ (l.length : Nat)) = True from eq_true (by omega), show (((l.length : Nat) : Int) ≤ 12) = True from eq_true (by omega)])]
      rw [mRet_r]
      unfold mAllT
      rw [mL_r, eV_0, Option.map_some, Option.bind_some]
      show Option.map _ (if hasTab "is_word" w = true then some (PyData.bool (l.all (signRng "a" "z")), w) else none) = _
      rw [if_pos hw, decide_eq_true c1, decide_eq_true c2]
      rfl
    · rw [mseq_rt (x := .d (.bool false)) (w1 := w) (by simp -implicitDefEqProofs only [eK_r, eV_0, eV_s, eB_0v, eB_0b, eB_0p, eB_0o, eB_s, eP_0v, eP_0b, eP_s, eS_0, eS_s, getS_0, getS_s, aNil_r, aCons_r, eOp_r, eUn_r, eCall_r, eBm_r, eTup_r, eLst_r, eIf_r, eAnd_r, eOr_r, eNot_r, eIs_r, eChain_r, eSl_r, oNo_r, oSo_r, asI_r, bT_r, bV_r, bYes_r, asB_r, truth_b, truth_l, truth_t, truth_n, truth_i, bAnd_r, bOr_r, bNot_r, oAdd_i, oSub_i, oNeg_i, oLt_i, oLe_i, oGt_i, oGe_i, cInt_i, cInt_b, cLen_l, cLen_t, cList_l, cList_t, cMax2_i, cMin2_i, cAbs_i, isT_int_i, isT_bool_i, isT_bool_b, isT_int_b, isT_tuple_t, isT_list_l, oEq_i, oNe_i, oEq_b, oNe_b, oIsN_n, oNotN_n, oIsN_i, oNotN_i, oIsB_b, oNotB_b, sSeqn_r, sNext_r, sBrk_r, sCnt_r, sRetN_r, sExpr_r, sRet_r, sRetOwn_r, sIf_r, sSet_r, sOwn_r, sAsg_r, gV_r, gT_r, gsNil_r, gsCons_r, sFz_r, sAug_r, addI_r, subI_r, sSeq_r, sArgs_r, itemsOf_l, itemsOf_t, sMut_r, fApp_r, Option.bind_some, Option.map_some, List.length_cons, List.length_nil, Nat.zero_add, Nat.reduceAdd, Nat.reduceLT, Nat.reduceLeDiff, List.set_cons_zero, List.set_cons_succ, if_true, Bool.false_eq_true, if_false, Bool.not_true, Bool.not_false, decide_true, decide_false, reduceCtorEq, unD_nil, unD_d, mL_r, mLB_r, mOp_r, mUn_r, mT_r, mV_r, mNot_r, mAndB_r, mOrB_r, mIte_r, maNil_r, maD_r, mF_r, mFK_r, mQ_r, mQR_r, mRv_0, mRv_s, mAndV_r, mOrV_r, mNotV_r, mNext_r, mIf_r, mSet_r, mOwn_r, mAny_r, mAsg_r, mRet_r, List.cons_append, List.nil_append, List.append_nil, is, ln, show ((1 : Int) ≤ (l.length : Nat)) = True from eq_true (by omega), show (((l.length : Nat) : Int) ≤ 12) = False from eq_false (by omega)])]
      rw [decide_eq_false c2, Bool.and_false, Bool.false_and]
  · rw [mseq_rt (x := .d (.bool false)) (w1 := w) (by simp -implicitDefEqProofs only [eK_r, eV_0, eV_s, eB_0v, eB_0b, eB_0p, eB_0o, eB_s, eP_0v, eP_0b, eP_s, eS_0, eS_s, getS_0, getS_s, aNil_r, aCons_r, eOp_r, eUn_r, eCall_r, eBm_r, eTup_r, eLst_r, eIf_r, eAnd_r, eOr_r, eNot_r, eIs_r, eChain_r, eSl_r, oNo_r, oSo_r, asI_r, bT_r, bV_r, bYes_r, asB_r, truth_b, truth_l, truth_t, truth_n, truth_i, bAnd_r, bOr_r, bNot_r, oAdd_i, oSub_i, oNeg_i, oLt_i, oLe_i, oGt_i, oGe_i, cInt_i, cInt_b, cLen_l, cLen_t, cList_l, cList_t, cMax2_i, cMin2_i, cAbs_i, isT_int_i, isT_bool_i, isT_bool_b, isT_int_b, isT_tuple_t, isT_list_l, oEq_i, oNe_i, oEq_b, oNe_b, oIsN_n, oNotN_n, oIsN_i, oNotN_i, oIsB_b, oNotB_b, sSeqn_r, sNext_r, sBrk_r, sCnt_r, sRetN_r, sExpr_r, sRet_r, sRetOwn_r, sIf_r, sSet_r, sOwn_r, sAsg_r, gV_r, gT_r, gsNil_r, gsCons_r, sFz_r, sAug_r, addI_r, subI_r, sSeq_r, sArgs_r, itemsOf_l, itemsOf_t, sMut_r, fApp_r, Option.bind_some, Option.map_some, List.length_cons, List.length_nil, Nat.zero_add, Nat.reduceAdd, Nat.reduceLT, Nat.reduceLeDiff, List.set_cons_zero, List.set_cons_succ, if_true, Bool.false_eq_true, if_false, Bool.not_true, Bool.not_false, decide_true, decide_false, reduceCtorEq, unD_nil, unD_d, mL_r, mLB_r, mOp_r, mUn_r, mT_r, mV_r, mNot_r, mAndB_r, mOrB_r, mIte_r, maNil_r, maD_r, mF_r, mFK_r, mQ_r, mQR_r, mRv_0, mRv_s, mAndV_r, mOrV_r, mNotV_r, mNext_r, mIf_r, mSet_r, mOwn_r, mAny_r, mAsg_r, mRet_r, List.cons_append, List.nil_append, List.append_nil, is, ln, show ((1 : Int) ≤ (l.length : Nat)) = False from eq_false (by omega)])]
    rw [decide_eq_false c1, Bool.false_and, Bool.false_and]
theorem isw_t {l : List Nat} {w : Wd} (hw : hasTab "is_word" w = true) (h : Wd1 l) : F_is_word [.d (tS l)] w = some (.d (.bool true), w) := by
  rw [isw_eq l w hw (by have := h.hi; omega), (wd1_iff l).mpr h]
/-! ### parsing -/
theorem mForGo_ct {g : SG} {b : MS} {d : PyData} {ds : List PyData} {ρ ρ1 ρ' : Rho} {w w1 : Wd} (e1 : g d ρ = some ρ1) (e2 : b ρ1 w = some (.ct ρ', w1)) : mForGo g b (d :: ds) ρ w = mForGo g b ds ρ' w1 := by
  rw [mForGo, e1, Option.bind_some, e2]; rfl
theorem cut_tail {α : Type} (x : α) (l : List α) : cutG (x :: l) (some 1) none = l := by
  unfold cutG
  rw [show (1 : Int) = ((1 : Nat) : Int) from rfl, HT.sIx_nat, show min 1 (x :: l).length = 1 by simp]
  show l.take ((x :: l).length - 1) = l
  simp
theorem cut_take {α : Type} (l : List α) (i : Nat) (h : i ≤ l.length) : cutG l none (some (i : Nat)) = l.take i := by
  unfold cutG
  rw [HT.sIx_nat, show min i l.length = i by omega]
  rfl
theorem asc_ok {l : List Nat} (h : Asc l) : clean 9 (tS l) = true := by simpa [tS, clean] using tOk h
theorem tNe {a b : List Nat} (ha : Asc a) (hb : Asc b) : oNe (tS a) (tS b) = some (.bool (!decide (a = b))) := by
  rw [oNe_c (asc_ok ha) (asc_ok hb), eqv_dec (asc_ok ha) (asc_ok hb) (a = b) (by simp [tS])]
theorem tS_map (ms : List (List Nat)) : ms.map tS = (ms.map fun l => (⟨l.toArray⟩ : Str)).map PyData.str := by rw [List.map_map]; rfl
theorem mk_inj {a b : List Nat} (h : (⟨a.toArray⟩ : Str) = ⟨b.toArray⟩) : a = b := by
  have := congrArg TL.tl h
  exact this
theorem tInL {m : List Nat} {ms : List (List Nat)} (hm : Asc m) (h : ∀ x ∈ ms, Asc x) : oIn (tS m) (.list (ms.map tS)) = some (.bool (decide (m ∈ ms))) := by
  have e := oIn_ss (z := (⟨m.toArray⟩ : Str)) (l := ms.map fun l => (⟨l.toArray⟩ : Str)) (tOk hm) (fun x hx => by
    obtain ⟨l, hl, rfl⟩ := List.mem_map.mp hx
    exact tOk (h l hl))
  rw [← tS_map] at e
  refine e.trans ?_
  have : ((⟨m.toArray⟩ : Str) ∈ ms.map fun l => (⟨l.toArray⟩ : Str)) ↔ m ∈ ms := ⟨fun z => by
    obtain ⟨l, hl, e⟩ := List.mem_map.mp z
    rw [← mk_inj e]; exact hl, fun z => List.mem_map.mpr ⟨m, z, rfl⟩⟩
  rw [decide_eq_decide.mpr this]
theorem enumD_at (d : PyData) : ∀ (ds : List PyData) (k : Nat), enumD k (d :: ds) = .tuple [.int (k : Nat), d] :: enumD (k + 1) ds := fun _ _ => rfl
/-- the marks of a step -/
theorem marksGo (wd pr n : Slot) (w : Wd) (hw : hasTab "is_word" w = true) (M : List (List Nat)) (hM : ∀ m ∈ M, Wd1 m) (nd : M.Nodup) : ∀ (ms pre : List (List Nat)) (x y : Slot), M = pre ++ ms → ∃ x' y', mForGo (gT 2 (gsCons (gV 4) (gsCons (gV 5) gsNil))) L_parse_step_1 (enumD pre.length (ms.map tS)) [wd, pr, n, .val (.list (M.map tS)), x, y] w = some (.nx [wd, pr, n, .val (.list (M.map tS)), x', y'], w)
  | [], pre, x, y, _ => ⟨x, y, rfl⟩
  | m :: ms, pre, x, y, e => by
    have hm : Wd1 m := hM m (by rw [e]; simp)
    obtain ⟨x', y', ih⟩ := marksGo wd pr n w hw M hM nd ms (pre ++ [m]) (.val (.int (pre.length : Nat))) (.val (tS m)) (by rw [e]; simp)
    refine ⟨x', y', ?_⟩
    rw [List.map_cons, enumD_at]
    rw [mForGo_one (ρ1 := [wd, pr, n, .val (.list (M.map tS)), .val (.int (pre.length : Nat)), .val (tS m)]) (ρ' := [wd, pr, n, .val (.list (M.map tS)), .val (.int (pre.length : Nat)), .val (tS m)]) (w1 := w) rfl ?_]
    · rw [List.length_append] at ih
      exact ih
    · have c1 : (mNot (mV (mCall F_is_word (maD (mL (eV 5)) maNil)))) [wd, pr, n, .val (.list (M.map tS)), .val (.int (pre.length : Nat)), .val (tS m)] w = some (false, w) := by
        rw [mNot_r, mV_r, mCall_eq (args := [.d (tS m)]) (w1 := w) (by simp -implicitDefEqProofs only [eK_r, eV_0, eV_s, eB_0v, eB_0b, eB_0p, eB_0o, eB_s, eP_0v, eP_0b, eP_s, eS_0, eS_s, getS_0, getS_s, aNil_r, aCons_r, eOp_r, eUn_r, eCall_r, eBm_r, eTup_r, eLst_r, eIf_r, eAnd_r, eOr_r, eNot_r, eIs_r, eChain_r, eSl_r, oNo_r, oSo_r, asI_r, bT_r, bV_r, bYes_r, asB_r, truth_b, truth_l, truth_t, truth_n, truth_i, bAnd_r, bOr_r, bNot_r, oAdd_i, oSub_i, oNeg_i, oLt_i, oLe_i, oGt_i, oGe_i, cInt_i, cInt_b, cLen_l, cLen_t, cList_l, cList_t, cMax2_i, cMin2_i, cAbs_i, isT_int_i, isT_bool_i, isT_bool_b, isT_int_b, isT_tuple_t, isT_list_l, oEq_i, oNe_i, oEq_b, oNe_b, oIsN_n, oNotN_n, oIsN_i, oNotN_i, oIsB_b, oNotB_b, sSeqn_r, sNext_r, sBrk_r, sCnt_r, sRetN_r, sExpr_r, sRet_r, sRetOwn_r, sIf_r, sSet_r, sOwn_r, sAsg_r, gV_r, gT_r, gsNil_r, gsCons_r, sFz_r, sAug_r, addI_r, subI_r, sSeq_r, sArgs_r, itemsOf_l, itemsOf_t, sMut_r, fApp_r, Option.bind_some, Option.map_some, List.length_cons, List.length_nil, Nat.zero_add, Nat.reduceAdd, Nat.reduceLT, Nat.reduceLeDiff, List.set_cons_zero, List.set_cons_succ, if_true, Bool.false_eq_true, if_false, Bool.not_true, Bool.not_false, decide_true, decide_false, reduceCtorEq, unD_nil, unD_d, mL_r, mLB_r, mOp_r, mUn_r, mT_r, mV_r, mNot_r, mAndB_r, mOrB_r, mIte_r, maNil_r, maD_r, mF_r, mFK_r, mQ_r, mQR_r, mRv_0, mRv_s, mAndV_r, mOrV_r, mNotV_r, mNext_r, mIf_r, mSet_r, mOwn_r, mAny_r, mAsg_r, mRet_r, List.cons_append, List.nil_append, List.append_nil]) (isw_t hw hm)]
        rfl
      have hp : M.take pre.length = pre := by rw [e, List.take_left]
      have nin : m ∉ pre := fun z => by
        rw [e] at nd
        exact (List.nodup_append.mp nd).2.2 m z m List.mem_cons_self rfl
      have ii := tInL hm.asc (fun x hx => (hM x (by rw [e]; exact List.mem_append_left _ hx)).asc) (ms := pre)
      rw [decide_eq_false nin] at ii
      have sl : oSl (.list (M.map tS)) none (some ((pre.length : Nat) : Int)) = some (.list (pre.map tS)) := by
        rw [oSl_l, cutD_map, cut_take M pre.length (by rw [e, List.length_append]; omega), hp]
      unfold L_parse_step_1
      rw [mIf_f (w1 := w) (by
        rw [mOrB_r, c1]
        simp -implicitDefEqProofs only [eK_r, eV_0, eV_s, eB_0v, eB_0b, eB_0p, eB_0o, eB_s, eP_0v, eP_0b, eP_s, eS_0, eS_s, getS_0, getS_s, aNil_r, aCons_r, eOp_r, eUn_r, eCall_r, eBm_r, eTup_r, eLst_r, eIf_r, eAnd_r, eOr_r, eNot_r, eIs_r, eChain_r, eSl_r, oNo_r, oSo_r, asI_r, bT_r, bV_r, bYes_r, asB_r, truth_b, truth_l, truth_t, truth_n, truth_i, bAnd_r, bOr_r, bNot_r, oAdd_i, oSub_i, oNeg_i, oLt_i, oLe_i, oGt_i, oGe_i, cInt_i, cInt_b, cLen_l, cLen_t, cList_l, cList_t, cMax2_i, cMin2_i, cAbs_i, isT_int_i, isT_bool_i, isT_bool_b, isT_int_b, isT_tuple_t, isT_list_l, oEq_i, oNe_i, oEq_b, oNe_b, oIsN_n, oNotN_n, oIsN_i, oNotN_i, oIsB_b, oNotB_b, sSeqn_r, sNext_r, sBrk_r, sCnt_r, sRetN_r, sExpr_r, sRet_r, sRetOwn_r, sIf_r, sSet_r, sOwn_r, sAsg_r, gV_r, gT_r, gsNil_r, gsCons_r, sFz_r, sAug_r, addI_r, subI_r, sSeq_r, sArgs_r, itemsOf_l, itemsOf_t, sMut_r, fApp_r, Option.bind_some, Option.map_some, List.length_cons, List.length_nil, Nat.zero_add, Nat.reduceAdd, Nat.reduceLT, Nat.reduceLeDiff, List.set_cons_zero, List.set_cons_succ, if_true, Bool.false_eq_true, if_false, Bool.not_true, Bool.not_false, decide_true, decide_false, reduceCtorEq, unD_nil, unD_d, mL_r, mLB_r, mOp_r, mUn_r, mT_r, mV_r, mNot_r, mAndB_r, mOrB_r, mIte_r, maNil_r, maD_r, mF_r, mFK_r, mQ_r, mQR_r, mRv_0, mRv_s, mAndV_r, mOrV_r, mNotV_r, mNext_r, mIf_r, mSet_r, mOwn_r, mAny_r, mAsg_r, mRet_r, List.cons_append, List.nil_append, List.append_nil, sl, ii])]
      rfl
theorem pstep_eq (j n : List Nat) (ms : List (List Nat)) (h : Sok1 n ms) (w : Wd) (hw : hasTab "is_word" w = true) (hz : (swL (j, n, ms)).length ≤ 10000) : F_parse_step [.d (tS (swL (j, n, ms)))] w = some (.d (.tuple [tS n, .tuple (ms.map tS)]), w) := by
  refine boxW_rt rfl ?_
  show B_parse_step [.bor (tS (swL (j, n, ms))), .un, .un, .un, .un, .un] w = _
  have eq1 := tEq (sw_asc (j := j) h) (show Asc [42] from Asc.one (by decide))
  unfold B_parse_step
  rw [lit_star, lit_dot, lit_A]
  by_cases hn : n = [42]
  · have hm : ms = [] := by
      rcases h.n with ⟨_, e⟩ | ⟨e, _⟩ | e
      · exact e
      · rw [hn] at e; cases e
      · exact absurd (show (42 : Nat) ∈ n by rw [hn]; exact List.mem_cons_self) (e.no (by decide))
    subst hn
    subst hm
    have e2 : swL (j, [42], []) = [42] := rfl
    rw [e2] at eq1 ⊢
    have l0 : (0 : Nat) ≤ sizeLine := Nat.zero_le _
    have l2 : (0 + 1 + 1 : Nat) ≤ sizeLine := size_le (by decide)
    rw [mseq_rt (x := .d (.tuple [tS [42], .tuple []])) (w1 := w) (by simp -implicitDefEqProofs only [eK_r, eV_0, eV_s, eB_0v, eB_0b, eB_0p, eB_0o, eB_s, eP_0v, eP_0b, eP_s, eS_0, eS_s, getS_0, getS_s, aNil_r, aCons_r, eOp_r, eUn_r, eCall_r, eBm_r, eTup_r, eLst_r, eIf_r, eAnd_r, eOr_r, eNot_r, eIs_r, eChain_r, eSl_r, oNo_r, oSo_r, asI_r, bT_r, bV_r, bYes_r, asB_r, truth_b, truth_l, truth_t, truth_n, truth_i, bAnd_r, bOr_r, bNot_r, oAdd_i, oSub_i, oNeg_i, oLt_i, oLe_i, oGt_i, oGe_i, cInt_i, cInt_b, cLen_l, cLen_t, cList_l, cList_t, cMax2_i, cMin2_i, cAbs_i, isT_int_i, isT_bool_i, isT_bool_b, isT_int_b, isT_tuple_t, isT_list_l, oEq_i, oNe_i, oEq_b, oNe_b, oIsN_n, oNotN_n, oIsN_i, oNotN_i, oIsB_b, oNotB_b, sSeqn_r, sNext_r, sBrk_r, sCnt_r, sRetN_r, sExpr_r, sRet_r, sRetOwn_r, sIf_r, sSet_r, sOwn_r, sAsg_r, gV_r, gT_r, gsNil_r, gsCons_r, sFz_r, sAug_r, addI_r, subI_r, sSeq_r, sArgs_r, itemsOf_l, itemsOf_t, sMut_r, fApp_r, Option.bind_some, Option.map_some, List.length_cons, List.length_nil, Nat.zero_add, Nat.reduceAdd, Nat.reduceLT, Nat.reduceLeDiff, List.set_cons_zero, List.set_cons_succ, if_true, Bool.false_eq_true, if_false, Bool.not_true, Bool.not_false, decide_true, decide_false, reduceCtorEq, unD_nil, unD_d, mL_r, mLB_r, mOp_r, mUn_r, mT_r, mV_r, mNot_r, mAndB_r, mOrB_r, mIte_r, maNil_r, maD_r, mF_r, mFK_r, mQ_r, mQR_r, mRv_0, mRv_s, mAndV_r, mOrV_r, mNotV_r, mNext_r, mIf_r, mSet_r, mOwn_r, mAny_r, mAsg_r, mRet_r, List.cons_append, List.nil_append, List.append_nil, eq1, l0, l2])]
    rfl
  have hs := sw_star (j := j) h hn
  rw [decide_eq_false hs] at eq1
  rw [mseq_nx (ρ' := [.bor (tS (swL (j, n, ms))), .un, .un, .un, .un, .un]) (w1 := w) (by simp -implicitDefEqProofs only [eK_r, eV_0, eV_s, eB_0v, eB_0b, eB_0p, eB_0o, eB_s, eP_0v, eP_0b, eP_s, eS_0, eS_s, getS_0, getS_s, aNil_r, aCons_r, eOp_r, eUn_r, eCall_r, eBm_r, eTup_r, eLst_r, eIf_r, eAnd_r, eOr_r, eNot_r, eIs_r, eChain_r, eSl_r, oNo_r, oSo_r, asI_r, bT_r, bV_r, bYes_r, asB_r, truth_b, truth_l, truth_t, truth_n, truth_i, bAnd_r, bOr_r, bNot_r, oAdd_i, oSub_i, oNeg_i, oLt_i, oLe_i, oGt_i, oGe_i, cInt_i, cInt_b, cLen_l, cLen_t, cList_l, cList_t, cMax2_i, cMin2_i, cAbs_i, isT_int_i, isT_bool_i, isT_bool_b, isT_int_b, isT_tuple_t, isT_list_l, oEq_i, oNe_i, oEq_b, oNe_b, oIsN_n, oNotN_n, oIsN_i, oNotN_i, oIsB_b, oNotB_b, sSeqn_r, sNext_r, sBrk_r, sCnt_r, sRetN_r, sExpr_r, sRet_r, sRetOwn_r, sIf_r, sSet_r, sOwn_r, sAsg_r, gV_r, gT_r, gsNil_r, gsCons_r, sFz_r, sAug_r, addI_r, subI_r, sSeq_r, sArgs_r, itemsOf_l, itemsOf_t, sMut_r, fApp_r, Option.bind_some, Option.map_some, List.length_cons, List.length_nil, Nat.zero_add, Nat.reduceAdd, Nat.reduceLT, Nat.reduceLeDiff, List.set_cons_zero, List.set_cons_succ, if_true, Bool.false_eq_true, if_false, Bool.not_true, Bool.not_false, decide_true, decide_false, reduceCtorEq, unD_nil, unD_d, mL_r, mLB_r, mOp_r, mUn_r, mT_r, mV_r, mNot_r, mAndB_r, mOrB_r, mIte_r, maNil_r, maD_r, mF_r, mFK_r, mQ_r, mQR_r, mRv_0, mRv_s, mAndV_r, mOrV_r, mNotV_r, mNext_r, mIf_r, mSet_r, mOwn_r, mAny_r, mAsg_r, mRet_r, List.cons_append, List.nil_append, List.append_nil, eq1])]
  have hnn : (n = [] ∧ ms ≠ []) ∨ Wd1 n := h.n.resolve_left fun z => hn z.1
  have nd : ∀ p ∈ n :: ms, (46 : Nat) ∉ p := fun p hp => by
    rcases List.mem_cons.mp hp with rfl | hp
    · rcases hnn with ⟨z, _⟩ | z
      · rw [z]; exact List.not_mem_nil
      · exact z.no (by decide)
    · exact (h.m p hp).no (by decide)
  have sp : oSplit (tS (swL (j, n, ms))) (tS [46]) = some (.list ((n :: ms).map tS)) := split_codes 46 (by decide) n ms nd hz
  have an : Asc n := by
    rcases hnn with ⟨z, _⟩ | z
    · rw [z]; exact Asc.nil
    · exact z.asc
  have q1 := tNe an Asc.nil
  have q2 := tEq an Asc.nil
  have sl : oSl (.list ((n :: ms).map tS)) (some 1) none = some (.list (ms.map tS)) := by rw [oSl_l, cutD_map, cut_tail]
  have ix : oIx (.list ((n :: ms).map tS)) (.int 0) = some (tS n) := by rw [oIx_l, List.map_cons, atI_0]
  generalize tS (swL (j, n, ms)) = WD at *
  generalize PyData.list ((n :: ms).map tS) = PR at *
  rw [mseq_s (ρ' := [.bor WD, .val PR, .un, .un, .un, .un]) (by simp -implicitDefEqProofs only [eK_r, eV_0, eV_s, eB_0v, eB_0b, eB_0p, eB_0o, eB_s, eP_0v, eP_0b, eP_s, eS_0, eS_s, getS_0, getS_s, aNil_r, aCons_r, eOp_r, eUn_r, eCall_r, eBm_r, eTup_r, eLst_r, eIf_r, eAnd_r, eOr_r, eNot_r, eIs_r, eChain_r, eSl_r, oNo_r, oSo_r, asI_r, bT_r, bV_r, bYes_r, asB_r, truth_b, truth_l, truth_t, truth_n, truth_i, bAnd_r, bOr_r, bNot_r, oAdd_i, oSub_i, oNeg_i, oLt_i, oLe_i, oGt_i, oGe_i, cInt_i, cInt_b, cLen_l, cLen_t, cList_l, cList_t, cMax2_i, cMin2_i, cAbs_i, isT_int_i, isT_bool_i, isT_bool_b, isT_int_b, isT_tuple_t, isT_list_l, oEq_i, oNe_i, oEq_b, oNe_b, oIsN_n, oNotN_n, oIsN_i, oNotN_i, oIsB_b, oNotB_b, sSeqn_r, sNext_r, sBrk_r, sCnt_r, sRetN_r, sExpr_r, sRet_r, sRetOwn_r, sIf_r, sSet_r, sOwn_r, sAsg_r, gV_r, gT_r, gsNil_r, gsCons_r, sFz_r, sAug_r, addI_r, subI_r, sSeq_r, sArgs_r, itemsOf_l, itemsOf_t, sMut_r, fApp_r, Option.bind_some, Option.map_some, List.length_cons, List.length_nil, Nat.zero_add, Nat.reduceAdd, Nat.reduceLT, Nat.reduceLeDiff, List.set_cons_zero, List.set_cons_succ, if_true, Bool.false_eq_true, if_false, Bool.not_true, Bool.not_false, decide_true, decide_false, reduceCtorEq, sp])]
  rw [mseq_s (ρ' := [.bor WD, .val PR, .val (tS n), .un, .un, .un]) (by simp -implicitDefEqProofs only [eK_r, eV_0, eV_s, eB_0v, eB_0b, eB_0p, eB_0o, eB_s, eP_0v, eP_0b, eP_s, eS_0, eS_s, getS_0, getS_s, aNil_r, aCons_r, eOp_r, eUn_r, eCall_r, eBm_r, eTup_r, eLst_r, eIf_r, eAnd_r, eOr_r, eNot_r, eIs_r, eChain_r, eSl_r, oNo_r, oSo_r, asI_r, bT_r, bV_r, bYes_r, asB_r, truth_b, truth_l, truth_t, truth_n, truth_i, bAnd_r, bOr_r, bNot_r, oAdd_i, oSub_i, oNeg_i, oLt_i, oLe_i, oGt_i, oGe_i, cInt_i, cInt_b, cLen_l, cLen_t, cList_l, cList_t, cMax2_i, cMin2_i, cAbs_i, isT_int_i, isT_bool_i, isT_bool_b, isT_int_b, isT_tuple_t, isT_list_l, oEq_i, oNe_i, oEq_b, oNe_b, oIsN_n, oNotN_n, oIsN_i, oNotN_i, oIsB_b, oNotB_b, sSeqn_r, sNext_r, sBrk_r, sCnt_r, sRetN_r, sExpr_r, sRet_r, sRetOwn_r, sIf_r, sSet_r, sOwn_r, sAsg_r, gV_r, gT_r, gsNil_r, gsCons_r, sFz_r, sAug_r, addI_r, subI_r, sSeq_r, sArgs_r, itemsOf_l, itemsOf_t, sMut_r, fApp_r, Option.bind_some, Option.map_some, List.length_cons, List.length_nil, Nat.zero_add, Nat.reduceAdd, Nat.reduceLT, Nat.reduceLeDiff, List.set_cons_zero, List.set_cons_succ, if_true, Bool.false_eq_true, if_false, Bool.not_true, Bool.not_false, decide_true, decide_false, reduceCtorEq, ix])]
  rw [mseq_s (ρ' := [.bor WD, .val PR, .val (tS n), .val (.list (ms.map tS)), .un, .un]) (by simp -implicitDefEqProofs only [eK_r, eV_0, eV_s, eB_0v, eB_0b, eB_0p, eB_0o, eB_s, eP_0v, eP_0b, eP_s, eS_0, eS_s, getS_0, getS_s, aNil_r, aCons_r, eOp_r, eUn_r, eCall_r, eBm_r, eTup_r, eLst_r, eIf_r, eAnd_r, eOr_r, eNot_r, eIs_r, eChain_r, eSl_r, oNo_r, oSo_r, asI_r, bT_r, bV_r, bYes_r, asB_r, truth_b, truth_l, truth_t, truth_n, truth_i, bAnd_r, bOr_r, bNot_r, oAdd_i, oSub_i, oNeg_i, oLt_i, oLe_i, oGt_i, oGe_i, cInt_i, cInt_b, cLen_l, cLen_t, cList_l, cList_t, cMax2_i, cMin2_i, cAbs_i, isT_int_i, isT_bool_i, isT_bool_b, isT_int_b, isT_tuple_t, isT_list_l, oEq_i, oNe_i, oEq_b, oNe_b, oIsN_n, oNotN_n, oIsN_i, oNotN_i, oIsB_b, oNotB_b, sSeqn_r, sNext_r, sBrk_r, sCnt_r, sRetN_r, sExpr_r, sRet_r, sRetOwn_r, sIf_r, sSet_r, sOwn_r, sAsg_r, gV_r, gT_r, gsNil_r, gsCons_r, sFz_r, sAug_r, addI_r, subI_r, sSeq_r, sArgs_r, itemsOf_l, itemsOf_t, sMut_r, fApp_r, Option.bind_some, Option.map_some, List.length_cons, List.length_nil, Nat.zero_add, Nat.reduceAdd, Nat.reduceLT, Nat.reduceLeDiff, List.set_cons_zero, List.set_cons_succ, if_true, Bool.false_eq_true, if_false, Bool.not_true, Bool.not_false, decide_true, decide_false, reduceCtorEq, sl])]
  have t1 : (mAndB (mLB (bT (eOp oNe (eB 2) (eK (tS []))))) (mNot (mV (mCall F_is_word (maD (mL (eV 2)) maNil))))) [.bor WD, .val PR, .val (tS n), .val (.list (ms.map tS)), .un, .un] w = some (false, w) := by
    rcases hnn with ⟨z, _⟩ | z
    · rw [decide_eq_true z] at q1
      simp -implicitDefEqProofs only [eK_r, eV_0, eV_s, eB_0v, eB_0b, eB_0p, eB_0o, eB_s, eP_0v, eP_0b, eP_s, eS_0, eS_s, getS_0, getS_s, aNil_r, aCons_r, eOp_r, eUn_r, eCall_r, eBm_r, eTup_r, eLst_r, eIf_r, eAnd_r, eOr_r, eNot_r, eIs_r, eChain_r, eSl_r, oNo_r, oSo_r, asI_r, bT_r, bV_r, bYes_r, asB_r, truth_b, truth_l, truth_t, truth_n, truth_i, bAnd_r, bOr_r, bNot_r, oAdd_i, oSub_i, oNeg_i, oLt_i, oLe_i, oGt_i, oGe_i, cInt_i, cInt_b, cLen_l, cLen_t, cList_l, cList_t, cMax2_i, cMin2_i, cAbs_i, isT_int_i, isT_bool_i, isT_bool_b, isT_int_b, isT_tuple_t, isT_list_l, oEq_i, oNe_i, oEq_b, oNe_b, oIsN_n, oNotN_n, oIsN_i, oNotN_i, oIsB_b, oNotB_b, sSeqn_r, sNext_r, sBrk_r, sCnt_r, sRetN_r, sExpr_r, sRet_r, sRetOwn_r, sIf_r, sSet_r, sOwn_r, sAsg_r, gV_r, gT_r, gsNil_r, gsCons_r, sFz_r, sAug_r, addI_r, subI_r, sSeq_r, sArgs_r, itemsOf_l, itemsOf_t, sMut_r, fApp_r, Option.bind_some, Option.map_some, List.length_cons, List.length_nil, Nat.zero_add, Nat.reduceAdd, Nat.reduceLT, Nat.reduceLeDiff, List.set_cons_zero, List.set_cons_succ, if_true, Bool.false_eq_true, if_false, Bool.not_true, Bool.not_false, decide_true, decide_false, reduceCtorEq, unD_nil, unD_d, mL_r, mLB_r, mOp_r, mUn_r, mT_r, mV_r, mNot_r, mAndB_r, mOrB_r, mIte_r, maNil_r, maD_r, mF_r, mFK_r, mQ_r, mQR_r, mRv_0, mRv_s, mAndV_r, mOrV_r, mNotV_r, mNext_r, mIf_r, mSet_r, mOwn_r, mAny_r, mAsg_r, mRet_r, List.cons_append, List.nil_append, List.append_nil, q1]
    · have z0 : n ≠ [] := fun e => by have := z.lo; rw [e] at this; simp at this
      rw [decide_eq_false z0] at q1
      have c1 : (mNot (mV (mCall F_is_word (maD (mL (eV 2)) maNil)))) [.bor WD, .val PR, .val (tS n), .val (.list (ms.map tS)), .un, .un] w = some (false, w) := by
        rw [mNot_r, mV_r, mCall_eq (args := [.d (tS n)]) (w1 := w) (by simp -implicitDefEqProofs only [eK_r, eV_0, eV_s, eB_0v, eB_0b, eB_0p, eB_0o, eB_s, eP_0v, eP_0b, eP_s, eS_0, eS_s, getS_0, getS_s, aNil_r, aCons_r, eOp_r, eUn_r, eCall_r, eBm_r, eTup_r, eLst_r, eIf_r, eAnd_r, eOr_r, eNot_r, eIs_r, eChain_r, eSl_r, oNo_r, oSo_r, asI_r, bT_r, bV_r, bYes_r, asB_r, truth_b, truth_l, truth_t, truth_n, truth_i, bAnd_r, bOr_r, bNot_r, oAdd_i, oSub_i, oNeg_i, oLt_i, oLe_i, oGt_i, oGe_i, cInt_i, cInt_b, cLen_l, cLen_t, cList_l, cList_t, cMax2_i, cMin2_i, cAbs_i, isT_int_i, isT_bool_i, isT_bool_b, isT_int_b, isT_tuple_t, isT_list_l, oEq_i, oNe_i, oEq_b, oNe_b, oIsN_n, oNotN_n, oIsN_i, oNotN_i, oIsB_b, oNotB_b, sSeqn_r, sNext_r, sBrk_r, sCnt_r, sRetN_r, sExpr_r, sRet_r, sRetOwn_r, sIf_r, sSet_r, sOwn_r, sAsg_r, gV_r, gT_r, gsNil_r, gsCons_r, sFz_r, sAug_r, addI_r, subI_r, sSeq_r, sArgs_r, itemsOf_l, itemsOf_t, sMut_r, fApp_r, Option.bind_some, Option.map_some, List.length_cons, List.length_nil, Nat.zero_add, Nat.reduceAdd, Nat.reduceLT, Nat.reduceLeDiff, List.set_cons_zero, List.set_cons_succ, if_true, Bool.false_eq_true, if_false, Bool.not_true, Bool.not_false, decide_true, decide_false, reduceCtorEq, unD_nil, unD_d, mL_r, mLB_r, mOp_r, mUn_r, mT_r, mV_r, mNot_r, mAndB_r, mOrB_r, mIte_r, maNil_r, maD_r, mF_r, mFK_r, mQ_r, mQR_r, mRv_0, mRv_s, mAndV_r, mOrV_r, mNotV_r, mNext_r, mIf_r, mSet_r, mOwn_r, mAny_r, mAsg_r, mRet_r, List.cons_append, List.nil_append, List.append_nil]) (isw_t hw z)]
        rfl
      rw [mAndB_r, show mLB (bT (eOp oNe (eB 2) (eK (tS [])))) [.bor WD, .val PR, .val (tS n), .val (.list (ms.map tS)), .un, .un] w = some (true, w) by simp -implicitDefEqProofs only [eK_r, eV_0, eV_s, eB_0v, eB_0b, eB_0p, eB_0o, eB_s, eP_0v, eP_0b, eP_s, eS_0, eS_s, getS_0, getS_s, aNil_r, aCons_r, eOp_r, eUn_r, eCall_r, eBm_r, eTup_r, eLst_r, eIf_r, eAnd_r, eOr_r, eNot_r, eIs_r, eChain_r, eSl_r, oNo_r, oSo_r, asI_r, bT_r, bV_r, bYes_r, asB_r, truth_b, truth_l, truth_t, truth_n, truth_i, bAnd_r, bOr_r, bNot_r, oAdd_i, oSub_i, oNeg_i, oLt_i, oLe_i, oGt_i, oGe_i, cInt_i, cInt_b, cLen_l, cLen_t, cList_l, cList_t, cMax2_i, cMin2_i, cAbs_i, isT_int_i, isT_bool_i, isT_bool_b, isT_int_b, isT_tuple_t, isT_list_l, oEq_i, oNe_i, oEq_b, oNe_b, oIsN_n, oNotN_n, oIsN_i, oNotN_i, oIsB_b, oNotB_b, sSeqn_r, sNext_r, sBrk_r, sCnt_r, sRetN_r, sExpr_r, sRet_r, sRetOwn_r, sIf_r, sSet_r, sOwn_r, sAsg_r, gV_r, gT_r, gsNil_r, gsCons_r, sFz_r, sAug_r, addI_r, subI_r, sSeq_r, sArgs_r, itemsOf_l, itemsOf_t, sMut_r, fApp_r, Option.bind_some, Option.map_some, List.length_cons, List.length_nil, Nat.zero_add, Nat.reduceAdd, Nat.reduceLT, Nat.reduceLeDiff, List.set_cons_zero, List.set_cons_succ, if_true, Bool.false_eq_true, if_false, Bool.not_true, Bool.not_false, decide_true, decide_false, reduceCtorEq, unD_nil, unD_d, mL_r, mLB_r, mOp_r, mUn_r, mT_r, mV_r, mNot_r, mAndB_r, mOrB_r, mIte_r, maNil_r, maD_r, mF_r, mFK_r, mQ_r, mQR_r, mRv_0, mRv_s, mAndV_r, mOrV_r, mNotV_r, mNext_r, mIf_r, mSet_r, mOwn_r, mAny_r, mAsg_r, mRet_r, List.cons_append, List.nil_append, List.append_nil, q1], Option.bind_some, if_pos rfl]
      exact c1
  rw [mseq_nx (ρ' := [.bor WD, .val PR, .val (tS n), .val (.list (ms.map tS)), .un, .un]) (w1 := w) (by rw [mIf_f t1]; rfl)]
  have t2 : bAnd (bT (eOp oEq (eB 2) (eK (tS [])))) (bNot (bV (eB 3))) [.bor WD, .val PR, .val (tS n), .val (.list (ms.map tS)), .un, .un] = some false := by
    by_cases z : n = []
    · rw [decide_eq_true z] at q2
      have hm : ms ≠ [] := by
        rcases hnn with ⟨_, y⟩ | y
        · exact y
        · have := y.lo; rw [z] at this; simp at this
      cases ms with
      | nil => exact absurd rfl hm
      | cons m ms => rw [bAnd_r, show bT (eOp oEq (eB 2) (eK (tS []))) [.bor WD, .val PR, .val (tS n), .val (.list ((m :: ms).map tS)), .un, .un] = some true by simp -implicitDefEqProofs only [eK_r, eV_0, eV_s, eB_0v, eB_0b, eB_0p, eB_0o, eB_s, eP_0v, eP_0b, eP_s, eS_0, eS_s, getS_0, getS_s, aNil_r, aCons_r, eOp_r, eUn_r, eCall_r, eBm_r, eTup_r, eLst_r, eIf_r, eAnd_r, eOr_r, eNot_r, eIs_r, eChain_r, eSl_r, oNo_r, oSo_r, asI_r, bT_r, bV_r, bYes_r, asB_r, truth_b, truth_l, truth_t, truth_n, truth_i, bAnd_r, bOr_r, bNot_r, oAdd_i, oSub_i, oNeg_i, oLt_i, oLe_i, oGt_i, oGe_i, cInt_i, cInt_b, cLen_l, cLen_t, cList_l, cList_t, cMax2_i, cMin2_i, cAbs_i, isT_int_i, isT_bool_i, isT_bool_b, isT_int_b, isT_tuple_t, isT_list_l, oEq_i, oNe_i, oEq_b, oNe_b, oIsN_n, oNotN_n, oIsN_i, oNotN_i, oIsB_b, oNotB_b, sSeqn_r, sNext_r, sBrk_r, sCnt_r, sRetN_r, sExpr_r, sRet_r, sRetOwn_r, sIf_r, sSet_r, sOwn_r, sAsg_r, gV_r, gT_r, gsNil_r, gsCons_r, sFz_r, sAug_r, addI_r, subI_r, sSeq_r, sArgs_r, itemsOf_l, itemsOf_t, sMut_r, fApp_r, Option.bind_some, Option.map_some, List.length_cons, List.length_nil, Nat.zero_add, Nat.reduceAdd, Nat.reduceLT, Nat.reduceLeDiff, List.set_cons_zero, List.set_cons_succ, if_true, Bool.false_eq_true, if_false, Bool.not_true, Bool.not_false, decide_true, decide_false, reduceCtorEq, q2], Option.bind_some, if_pos rfl]; rfl
    · rw [decide_eq_false z] at q2
      simp -implicitDefEqProofs only [eK_r, eV_0, eV_s, eB_0v, eB_0b, eB_0p, eB_0o, eB_s, eP_0v, eP_0b, eP_s, eS_0, eS_s, getS_0, getS_s, aNil_r, aCons_r, eOp_r, eUn_r, eCall_r, eBm_r, eTup_r, eLst_r, eIf_r, eAnd_r, eOr_r, eNot_r, eIs_r, eChain_r, eSl_r, oNo_r, oSo_r, asI_r, bT_r, bV_r, bYes_r, asB_r, truth_b, truth_l, truth_t, truth_n, truth_i, bAnd_r, bOr_r, bNot_r, oAdd_i, oSub_i, oNeg_i, oLt_i, oLe_i, oGt_i, oGe_i, cInt_i, cInt_b, cLen_l, cLen_t, cList_l, cList_t, cMax2_i, cMin2_i, cAbs_i, isT_int_i, isT_bool_i, isT_bool_b, isT_int_b, isT_tuple_t, isT_list_l, oEq_i, oNe_i, oEq_b, oNe_b, oIsN_n, oNotN_n, oIsN_i, oNotN_i, oIsB_b, oNotB_b, sSeqn_r, sNext_r, sBrk_r, sCnt_r, sRetN_r, sExpr_r, sRet_r, sRetOwn_r, sIf_r, sSet_r, sOwn_r, sAsg_r, gV_r, gT_r, gsNil_r, gsCons_r, sFz_r, sAug_r, addI_r, subI_r, sSeq_r, sArgs_r, itemsOf_l, itemsOf_t, sMut_r, fApp_r, Option.bind_some, Option.map_some, List.length_cons, List.length_nil, Nat.zero_add, Nat.reduceAdd, Nat.reduceLT, Nat.reduceLeDiff, List.set_cons_zero, List.set_cons_succ, if_true, Bool.false_eq_true, if_false, Bool.not_true, Bool.not_false, decide_true, decide_false, reduceCtorEq, q2]
  rw [mseq_nx (ρ' := [.bor WD, .val PR, .val (tS n), .val (.list (ms.map tS)), .un, .un]) (w1 := w) (by rw [mIf_r, mLB_r, t2]; rfl)]
  obtain ⟨x', y', lp⟩ := marksGo (.bor WD) (.val PR) (.val (tS n)) w hw ms h.m h.d ms [] .un .un rfl
  rw [mseq_nx ((mFor_eq (ds := enumD 0 (ms.map tS)) (w1 := w) (mArgsI_eq (l := [.d (.list (ms.map tS))]) (w1 := w) (by simp -implicitDefEqProofs only [eK_r, eV_0, eV_s, eB_0v, eB_0b, eB_0p, eB_0o, eB_s, eP_0v, eP_0b, eP_s, eS_0, eS_s, getS_0, getS_s, aNil_r, aCons_r, eOp_r, eUn_r, eCall_r, eBm_r, eTup_r, eLst_r, eIf_r, eAnd_r, eOr_r, eNot_r, eIs_r, eChain_r, eSl_r, oNo_r, oSo_r, asI_r, bT_r, bV_r, bYes_r, asB_r, truth_b, truth_l, truth_t, truth_n, truth_i, bAnd_r, bOr_r, bNot_r, oAdd_i, oSub_i, oNeg_i, oLt_i, oLe_i, oGt_i, oGe_i, cInt_i, cInt_b, cLen_l, cLen_t, cList_l, cList_t, cMax2_i, cMin2_i, cAbs_i, isT_int_i, isT_bool_i, isT_bool_b, isT_int_b, isT_tuple_t, isT_list_l, oEq_i, oNe_i, oEq_b, oNe_b, oIsN_n, oNotN_n, oIsN_i, oNotN_i, oIsB_b, oNotB_b, sSeqn_r, sNext_r, sBrk_r, sCnt_r, sRetN_r, sExpr_r, sRet_r, sRetOwn_r, sIf_r, sSet_r, sOwn_r, sAsg_r, gV_r, gT_r, gsNil_r, gsCons_r, sFz_r, sAug_r, addI_r, subI_r, sSeq_r, sArgs_r, itemsOf_l, itemsOf_t, sMut_r, fApp_r, Option.bind_some, Option.map_some, List.length_cons, List.length_nil, Nat.zero_add, Nat.reduceAdd, Nat.reduceLT, Nat.reduceLeDiff, List.set_cons_zero, List.set_cons_succ, if_true, Bool.false_eq_true, if_false, Bool.not_true, Bool.not_false, decide_true, decide_false, reduceCtorEq, unD_nil, unD_d, mL_r, mLB_r, mOp_r, mUn_r, mT_r, mV_r, mNot_r, mAndB_r, mOrB_r, mIte_r, maNil_r, maD_r, mF_r, mFK_r, mQ_r, mQR_r, mRv_0, mRv_s, mAndV_r, mOrV_r, mNotV_r, mNext_r, mIf_r, mSet_r, mOwn_r, mAny_r, mAsg_r, mRet_r, List.cons_append, List.nil_append, List.append_nil]) rfl)).trans lp)]
  have l2 : (0 + 1 + 1 : Nat) ≤ sizeLine := size_le (by decide)
  simp -implicitDefEqProofs only [eK_r, eV_0, eV_s, eB_0v, eB_0b, eB_0p, eB_0o, eB_s, eP_0v, eP_0b, eP_s, eS_0, eS_s, getS_0, getS_s, aNil_r, aCons_r, eOp_r, eUn_r, eCall_r, eBm_r, eTup_r, eLst_r, eIf_r, eAnd_r, eOr_r, eNot_r, eIs_r, eChain_r, eSl_r, oNo_r, oSo_r, asI_r, bT_r, bV_r, bYes_r, asB_r, truth_b, truth_l, truth_t, truth_n, truth_i, bAnd_r, bOr_r, bNot_r, oAdd_i, oSub_i, oNeg_i, oLt_i, oLe_i, oGt_i, oGe_i, cInt_i, cInt_b, cLen_l, cLen_t, cList_l, cList_t, cMax2_i, cMin2_i, cAbs_i, isT_int_i, isT_bool_i, isT_bool_b, isT_int_b, isT_tuple_t, isT_list_l, oEq_i, oNe_i, oEq_b, oNe_b, oIsN_n, oNotN_n, oIsN_i, oNotN_i, oIsB_b, oNotB_b, sSeqn_r, sNext_r, sBrk_r, sCnt_r, sRetN_r, sExpr_r, sRet_r, sRetOwn_r, sIf_r, sSet_r, sOwn_r, sAsg_r, gV_r, gT_r, gsNil_r, gsCons_r, sFz_r, sAug_r, addI_r, subI_r, sSeq_r, sArgs_r, itemsOf_l, itemsOf_t, sMut_r, fApp_r, Option.bind_some, Option.map_some, List.length_cons, List.length_nil, Nat.zero_add, Nat.reduceAdd, Nat.reduceLT, Nat.reduceLeDiff, List.set_cons_zero, List.set_cons_succ, if_true, Bool.false_eq_true, if_false, Bool.not_true, Bool.not_false, decide_true, decide_false, reduceCtorEq, unD_nil, unD_d, mL_r, mLB_r, mOp_r, mUn_r, mT_r, mV_r, mNot_r, mAndB_r, mOrB_r, mIte_r, maNil_r, maD_r, mF_r, mFK_r, mQ_r, mQR_r, mRv_0, mRv_s, mAndV_r, mOrV_r, mNotV_r, mNext_r, mIf_r, mSet_r, mOwn_r, mAny_r, mAsg_r, mRet_r, List.cons_append, List.nil_append, List.append_nil, cTuple_l, l2]
/-! ### selectors -/
theorem isN_no' {v : PyData} (h : v ≠ .none) : oIsN v .none = some (.bool false) := by
  cases v <;> first | rfl | exact absurd rfl h
structure Lok (l : List Stp) : Prop where
  s : ∀ s ∈ l, Sok1 s.2.1 s.2.2
  j : ∀ s ∈ l.drop 1, s.1 = [32] ∨ s.1 = [62]
  h : ∀ s ∈ l.head?, s.1 = []
def tok (s : Stp) : List (List Nat) := if s.1 = [62] then [[62], swL s] else [swL s]
theorem toks_wr : ∀ (l : List Stp), (∀ s ∈ l, s.1 = [32] ∨ s.1 = [62]) → (((l.map tok).flatten).map fun m => 32 :: m).flatten = wrL l
  | [], _ => rfl
  | s :: l, h => by
    rw [List.map_cons, List.flatten_cons, List.map_append, List.flatten_append, toks_wr l fun x hx => h x (List.mem_cons_of_mem _ hx), wrL_cons]
    congr 1
    unfold tok jL
    rcases h s List.mem_cons_self with e | e <;> rw [e] <;> simp
theorem sw_ne {j n : List Nat} {ms : List (List Nat)} (h : Sok1 n ms) {c : Nat} (h1 : c ≠ 42) (h2 : c ≠ 46) (h3 : c < 97) : c ∉ swL (j, n, ms) := fun z => by
  rcases sw_mem h z with e | e | e <;> omega
theorem asc62 : Asc [62] := Asc.one (by decide)
theorem wordTail (ws y sj : Slot) (w : Wd) (AC : List PyData) (b : Bool) (WD T N MS jb : PyData) (ps : F_parse_step [.d WD] w = some (.d T, w)) (nn : oIsN T .none = some (.bool false)) (x0 : oIx T (.int 0) = some N) (x1 : oIx T (.int 1) = some MS) (la : AC.length < sizeLine) (h1 : b = false → jb = tS [32]) (h2 : b = true → sj = .val jb) : (mSeq (mIf (mLB (bNot (bV (eB 3))))
    (mS (sSet 2 (eK (tS [32]))))
    mNext)
  (mSeq (mSet 5 (mCall F_parse_step (maD (mL (eB 4)) maNil)))
  (mSeq (mIf (mLB (bT (eOp oIsN (eB 5) (eK (.none)))))
    (mRet (mL (eK (.none))))
    mNext)
  (mSeq (mS (sMut fApp 1 (aCons (eTup (aCons (eV 2) (aCons (eOp oIx (eB 5) (eK (.int 0))) (aCons (eOp oIx (eB 5) (eK (.int 1))) aNil)))) aNil)))
  (mS (sSet 3 (eK (.bool false)))))))) [ws, .own (.list AC), sj, .val (.bool b), .val WD, y] w = some (.nx [ws, .own (.list (AC ++ [.tuple [jb, N, MS]])), .val jb, .val (.bool false), .val WD, .val T], w) := by
  have l3 : (0 + 1 + 1 + 1 : Nat) ≤ sizeLine := size_le (by decide)
  rw [mseq_nx (ρ' := [ws, .own (.list AC), .val jb, .val (.bool b), .val WD, y]) (w1 := w) (by
    cases b with
    | false =>
      rw [h1 rfl, mIf_t (w1 := w) (by simp -implicitDefEqProofs only [eK_r, eV_0, eV_s, eB_0v, eB_0b, eB_0p, eB_0o, eB_s, eP_0v, eP_0b, eP_s, eS_0, eS_s, getS_0, getS_s, aNil_r, aCons_r, eOp_r, eUn_r, eCall_r, eBm_r, eTup_r, eLst_r, eIf_r, eAnd_r, eOr_r, eNot_r, eIs_r, eChain_r, eSl_r, oNo_r, oSo_r, asI_r, bT_r, bV_r, bYes_r, asB_r, truth_b, truth_l, truth_t, truth_n, truth_i, bAnd_r, bOr_r, bNot_r, oAdd_i, oSub_i, oNeg_i, oLt_i, oLe_i, oGt_i, oGe_i, cInt_i, cInt_b, cLen_l, cLen_t, cList_l, cList_t, cMax2_i, cMin2_i, cAbs_i, isT_int_i, isT_bool_i, isT_bool_b, isT_int_b, isT_tuple_t, isT_list_l, oEq_i, oNe_i, oEq_b, oNe_b, oIsN_n, oNotN_n, oIsN_i, oNotN_i, oIsB_b, oNotB_b, sSeqn_r, sNext_r, sBrk_r, sCnt_r, sRetN_r, sExpr_r, sRet_r, sRetOwn_r, sIf_r, sSet_r, sOwn_r, sAsg_r, gV_r, gT_r, gsNil_r, gsCons_r, sFz_r, sAug_r, addI_r, subI_r, sSeq_r, sArgs_r, itemsOf_l, itemsOf_t, sMut_r, fApp_r, Option.bind_some, Option.map_some, List.length_cons, List.length_nil, Nat.zero_add, Nat.reduceAdd, Nat.reduceLT, Nat.reduceLeDiff, List.set_cons_zero, List.set_cons_succ, if_true, Bool.false_eq_true, if_false, Bool.not_true, Bool.not_false, decide_true, decide_false, reduceCtorEq, unD_nil, unD_d, mL_r, mLB_r, mOp_r, mUn_r, mT_r, mV_r, mNot_r, mAndB_r, mOrB_r, mIte_r, maNil_r, maD_r, mF_r, mFK_r, mQ_r, mQR_r, mRv_0, mRv_s, mAndV_r, mOrV_r, mNotV_r, mNext_r, mIf_r, mSet_r, mOwn_r, mAny_r, mAsg_r, mRet_r, List.cons_append, List.nil_append, List.append_nil])]
      exact mS_nx (by simp -implicitDefEqProofs only [eK_r, eV_0, eV_s, eB_0v, eB_0b, eB_0p, eB_0o, eB_s, eP_0v, eP_0b, eP_s, eS_0, eS_s, getS_0, getS_s, aNil_r, aCons_r, eOp_r, eUn_r, eCall_r, eBm_r, eTup_r, eLst_r, eIf_r, eAnd_r, eOr_r, eNot_r, eIs_r, eChain_r, eSl_r, oNo_r, oSo_r, asI_r, bT_r, bV_r, bYes_r, asB_r, truth_b, truth_l, truth_t, truth_n, truth_i, bAnd_r, bOr_r, bNot_r, oAdd_i, oSub_i, oNeg_i, oLt_i, oLe_i, oGt_i, oGe_i, cInt_i, cInt_b, cLen_l, cLen_t, cList_l, cList_t, cMax2_i, cMin2_i, cAbs_i, isT_int_i, isT_bool_i, isT_bool_b, isT_int_b, isT_tuple_t, isT_list_l, oEq_i, oNe_i, oEq_b, oNe_b, oIsN_n, oNotN_n, oIsN_i, oNotN_i, oIsB_b, oNotB_b, sSeqn_r, sNext_r, sBrk_r, sCnt_r, sRetN_r, sExpr_r, sRet_r, sRetOwn_r, sIf_r, sSet_r, sOwn_r, sAsg_r, gV_r, gT_r, gsNil_r, gsCons_r, sFz_r, sAug_r, addI_r, subI_r, sSeq_r, sArgs_r, itemsOf_l, itemsOf_t, sMut_r, fApp_r, Option.bind_some, Option.map_some, List.length_cons, List.length_nil, Nat.zero_add, Nat.reduceAdd, Nat.reduceLT, Nat.reduceLeDiff, List.set_cons_zero, List.set_cons_succ, if_true, Bool.false_eq_true, if_false, Bool.not_true, Bool.not_false, decide_true, decide_false, reduceCtorEq])
    | true =>
      rw [h2 rfl, mIf_f (w1 := w) (by simp -implicitDefEqProofs only [eK_r, eV_0, eV_s, eB_0v, eB_0b, eB_0p, eB_0o, eB_s, eP_0v, eP_0b, eP_s, eS_0, eS_s, getS_0, getS_s, aNil_r, aCons_r, eOp_r, eUn_r, eCall_r, eBm_r, eTup_r, eLst_r, eIf_r, eAnd_r, eOr_r, eNot_r, eIs_r, eChain_r, eSl_r, oNo_r, oSo_r, asI_r, bT_r, bV_r, bYes_r, asB_r, truth_b, truth_l, truth_t, truth_n, truth_i, bAnd_r, bOr_r, bNot_r, oAdd_i, oSub_i, oNeg_i, oLt_i, oLe_i, oGt_i, oGe_i, cInt_i, cInt_b, cLen_l, cLen_t, cList_l, cList_t, cMax2_i, cMin2_i, cAbs_i, isT_int_i, isT_bool_i, isT_bool_b, isT_int_b, isT_tuple_t, isT_list_l, oEq_i, oNe_i, oEq_b, oNe_b, oIsN_n, oNotN_n, oIsN_i, oNotN_i, oIsB_b, oNotB_b, sSeqn_r, sNext_r, sBrk_r, sCnt_r, sRetN_r, sExpr_r, sRet_r, sRetOwn_r, sIf_r, sSet_r, sOwn_r, sAsg_r, gV_r, gT_r, gsNil_r, gsCons_r, sFz_r, sAug_r, addI_r, subI_r, sSeq_r, sArgs_r, itemsOf_l, itemsOf_t, sMut_r, fApp_r, Option.bind_some, Option.map_some, List.length_cons, List.length_nil, Nat.zero_add, Nat.reduceAdd, Nat.reduceLT, Nat.reduceLeDiff, List.set_cons_zero, List.set_cons_succ, if_true, Bool.false_eq_true, if_false, Bool.not_true, Bool.not_false, decide_true, decide_false, reduceCtorEq, unD_nil, unD_d, mL_r, mLB_r, mOp_r, mUn_r, mT_r, mV_r, mNot_r, mAndB_r, mOrB_r, mIte_r, maNil_r, maD_r, mF_r, mFK_r, mQ_r, mQR_r, mRv_0, mRv_s, mAndV_r, mOrV_r, mNotV_r, mNext_r, mIf_r, mSet_r, mOwn_r, mAny_r, mAsg_r, mRet_r, List.cons_append, List.nil_append, List.append_nil])]
      rfl)]
  rw [mseq_nx (mSet_eq (d := T) (w1 := w) (mCall_eq (args := [.d WD]) (w1 := w) (by simp -implicitDefEqProofs only [eK_r, eV_0, eV_s, eB_0v, eB_0b, eB_0p, eB_0o, eB_s, eP_0v, eP_0b, eP_s, eS_0, eS_s, getS_0, getS_s, aNil_r, aCons_r, eOp_r, eUn_r, eCall_r, eBm_r, eTup_r, eLst_r, eIf_r, eAnd_r, eOr_r, eNot_r, eIs_r, eChain_r, eSl_r, oNo_r, oSo_r, asI_r, bT_r, bV_r, bYes_r, asB_r, truth_b, truth_l, truth_t, truth_n, truth_i, bAnd_r, bOr_r, bNot_r, oAdd_i, oSub_i, oNeg_i, oLt_i, oLe_i, oGt_i, oGe_i, cInt_i, cInt_b, cLen_l, cLen_t, cList_l, cList_t, cMax2_i, cMin2_i, cAbs_i, isT_int_i, isT_bool_i, isT_bool_b, isT_int_b, isT_tuple_t, isT_list_l, oEq_i, oNe_i, oEq_b, oNe_b, oIsN_n, oNotN_n, oIsN_i, oNotN_i, oIsB_b, oNotB_b, sSeqn_r, sNext_r, sBrk_r, sCnt_r, sRetN_r, sExpr_r, sRet_r, sRetOwn_r, sIf_r, sSet_r, sOwn_r, sAsg_r, gV_r, gT_r, gsNil_r, gsCons_r, sFz_r, sAug_r, addI_r, subI_r, sSeq_r, sArgs_r, itemsOf_l, itemsOf_t, sMut_r, fApp_r, Option.bind_some, Option.map_some, List.length_cons, List.length_nil, Nat.zero_add, Nat.reduceAdd, Nat.reduceLT, Nat.reduceLeDiff, List.set_cons_zero, List.set_cons_succ, if_true, Bool.false_eq_true, if_false, Bool.not_true, Bool.not_false, decide_true, decide_false, reduceCtorEq, unD_nil, unD_d, mL_r, mLB_r, mOp_r, mUn_r, mT_r, mV_r, mNot_r, mAndB_r, mOrB_r, mIte_r, maNil_r, maD_r, mF_r, mFK_r, mQ_r, mQR_r, mRv_0, mRv_s, mAndV_r, mOrV_r, mNotV_r, mNext_r, mIf_r, mSet_r, mOwn_r, mAny_r, mAsg_r, mRet_r, List.cons_append, List.nil_append, List.append_nil]) ps) (by simp))]
  show mSeq _ _ [ws, .own (.list AC), .val jb, .val (.bool b), .val WD, .val T] _ = _
  rw [mseq_nx (ρ' := [ws, .own (.list AC), .val jb, .val (.bool b), .val WD, .val T]) (w1 := w) (by simp -implicitDefEqProofs only [eK_r, eV_0, eV_s, eB_0v, eB_0b, eB_0p, eB_0o, eB_s, eP_0v, eP_0b, eP_s, eS_0, eS_s, getS_0, getS_s, aNil_r, aCons_r, eOp_r, eUn_r, eCall_r, eBm_r, eTup_r, eLst_r, eIf_r, eAnd_r, eOr_r, eNot_r, eIs_r, eChain_r, eSl_r, oNo_r, oSo_r, asI_r, bT_r, bV_r, bYes_r, asB_r, truth_b, truth_l, truth_t, truth_n, truth_i, bAnd_r, bOr_r, bNot_r, oAdd_i, oSub_i, oNeg_i, oLt_i, oLe_i, oGt_i, oGe_i, cInt_i, cInt_b, cLen_l, cLen_t, cList_l, cList_t, cMax2_i, cMin2_i, cAbs_i, isT_int_i, isT_bool_i, isT_bool_b, isT_int_b, isT_tuple_t, isT_list_l, oEq_i, oNe_i, oEq_b, oNe_b, oIsN_n, oNotN_n, oIsN_i, oNotN_i, oIsB_b, oNotB_b, sSeqn_r, sNext_r, sBrk_r, sCnt_r, sRetN_r, sExpr_r, sRet_r, sRetOwn_r, sIf_r, sSet_r, sOwn_r, sAsg_r, gV_r, gT_r, gsNil_r, gsCons_r, sFz_r, sAug_r, addI_r, subI_r, sSeq_r, sArgs_r, itemsOf_l, itemsOf_t, sMut_r, fApp_r, Option.bind_some, Option.map_some, List.length_cons, List.length_nil, Nat.zero_add, Nat.reduceAdd, Nat.reduceLT, Nat.reduceLeDiff, List.set_cons_zero, List.set_cons_succ, if_true, Bool.false_eq_true, if_false, Bool.not_true, Bool.not_false, decide_true, decide_false, reduceCtorEq, unD_nil, unD_d, mL_r, mLB_r, mOp_r, mUn_r, mT_r, mV_r, mNot_r, mAndB_r, mOrB_r, mIte_r, maNil_r, maD_r, mF_r, mFK_r, mQ_r, mQR_r, mRv_0, mRv_s, mAndV_r, mOrV_r, mNotV_r, mNext_r, mIf_r, mSet_r, mOwn_r, mAny_r, mAsg_r, mRet_r, List.cons_append, List.nil_append, List.append_nil, nn])]
  rw [mseq_s (ρ' := [ws, .own (.list (AC ++ [.tuple [jb, N, MS]])), .val jb, .val (.bool b), .val WD, .val T]) (by simp -implicitDefEqProofs only [eK_r, eV_0, eV_s, eB_0v, eB_0b, eB_0p, eB_0o, eB_s, eP_0v, eP_0b, eP_s, eS_0, eS_s, getS_0, getS_s, aNil_r, aCons_r, eOp_r, eUn_r, eCall_r, eBm_r, eTup_r, eLst_r, eIf_r, eAnd_r, eOr_r, eNot_r, eIs_r, eChain_r, eSl_r, oNo_r, oSo_r, asI_r, bT_r, bV_r, bYes_r, asB_r, truth_b, truth_l, truth_t, truth_n, truth_i, bAnd_r, bOr_r, bNot_r, oAdd_i, oSub_i, oNeg_i, oLt_i, oLe_i, oGt_i, oGe_i, cInt_i, cInt_b, cLen_l, cLen_t, cList_l, cList_t, cMax2_i, cMin2_i, cAbs_i, isT_int_i, isT_bool_i, isT_bool_b, isT_int_b, isT_tuple_t, isT_list_l, oEq_i, oNe_i, oEq_b, oNe_b, oIsN_n, oNotN_n, oIsN_i, oNotN_i, oIsB_b, oNotB_b, sSeqn_r, sNext_r, sBrk_r, sCnt_r, sRetN_r, sExpr_r, sRet_r, sRetOwn_r, sIf_r, sSet_r, sOwn_r, sAsg_r, gV_r, gT_r, gsNil_r, gsCons_r, sFz_r, sAug_r, addI_r, subI_r, sSeq_r, sArgs_r, itemsOf_l, itemsOf_t, sMut_r, fApp_r, Option.bind_some, Option.map_some, List.length_cons, List.length_nil, Nat.zero_add, Nat.reduceAdd, Nat.reduceLT, Nat.reduceLeDiff, List.set_cons_zero, List.set_cons_succ, if_true, Bool.false_eq_true, if_false, Bool.not_true, Bool.not_false, decide_true, decide_false, reduceCtorEq, x0, x1, l3, la])]
  exact mS_nx (by simp -implicitDefEqProofs only [eK_r, eV_0, eV_s, eB_0v, eB_0b, eB_0p, eB_0o, eB_s, eP_0v, eP_0b, eP_s, eS_0, eS_s, getS_0, getS_s, aNil_r, aCons_r, eOp_r, eUn_r, eCall_r, eBm_r, eTup_r, eLst_r, eIf_r, eAnd_r, eOr_r, eNot_r, eIs_r, eChain_r, eSl_r, oNo_r, oSo_r, asI_r, bT_r, bV_r, bYes_r, asB_r, truth_b, truth_l, truth_t, truth_n, truth_i, bAnd_r, bOr_r, bNot_r, oAdd_i, oSub_i, oNeg_i, oLt_i, oLe_i, oGt_i, oGe_i, cInt_i, cInt_b, cLen_l, cLen_t, cList_l, cList_t, cMax2_i, cMin2_i, cAbs_i, isT_int_i, isT_bool_i, isT_bool_b, isT_int_b, isT_tuple_t, isT_list_l, oEq_i, oNe_i, oEq_b, oNe_b, oIsN_n, oNotN_n, oIsN_i, oNotN_i, oIsB_b, oNotB_b, sSeqn_r, sNext_r, sBrk_r, sCnt_r, sRetN_r, sExpr_r, sRet_r, sRetOwn_r, sIf_r, sSet_r, sOwn_r, sAsg_r, gV_r, gT_r, gsNil_r, gsCons_r, sFz_r, sAug_r, addI_r, subI_r, sSeq_r, sArgs_r, itemsOf_l, itemsOf_t, sMut_r, fApp_r, Option.bind_some, Option.map_some, List.length_cons, List.length_nil, Nat.zero_add, Nat.reduceAdd, Nat.reduceLT, Nat.reduceLeDiff, List.set_cons_zero, List.set_cons_succ, if_true, Bool.false_eq_true, if_false, Bool.not_true, Bool.not_false, decide_true, decide_false, reduceCtorEq])
/-- a word that is a step -/
theorem wordOne (ws y sj : Slot) (w : Wd) (hw : hasTab "is_word" w = true) (s : Stp) (hs : Sok1 s.2.1 s.2.2) (hz : (swL s).length ≤ 10000) (acc : List Stp) (ha : acc.length ≤ 1000) (b : Bool) (jb : List Nat) (h1 : b = false → jb = [32]) (h2 : b = true → sj = .val (tS jb)) : ∃ y', L_parse_words_1 [ws, .own (.list (acc.map enc)), sj, .val (.bool b), .val (tS (swL s)), y] w = some (.nx [ws, .own (.list ((acc ++ [(jb, s.2)]).map enc)), .val (tS jb), .val (.bool false), .val (tS (swL s)), y'], w) := by
  obtain ⟨j0, n, ms⟩ := s
  have ps := pstep_eq j0 n ms hs w hw hz
  have nq : swL (j0, n, ms) ≠ [62] := fun e => sw_ne (j := j0) hs (c := 62) (by decide) (by decide) (by decide) (by rw [e]; exact List.mem_cons_self)
  have q1 := tEq (sw_asc (j := j0) hs) asc62
  rw [decide_eq_false nq] at q1
  have la : (acc.map enc).length < sizeLine := by rw [List.length_map, sizeLine_eq]; omega
  have nn := isN_no' (v := .tuple [tS n, .tuple (ms.map tS)]) (by simp)
  refine ⟨.val (.tuple [tS n, .tuple (ms.map tS)]), ?_⟩
  rw [List.map_append]
  show _ = some (OW.nx [ws, .own (.list (acc.map enc ++ [.tuple [tS jb, tS n, .tuple (ms.map tS)]])), _, _, _, _], w)
  unfold L_parse_words_1
  rw [lit_gt, lit_sp]
  rw [mseq_nx (ρ' := [ws, .own (.list (acc.map enc)), sj, .val (.bool b), .val (tS (swL (j0, n, ms))), y]) (w1 := w) (by rw [mIf_f (w1 := w) (by simp -implicitDefEqProofs only [eK_r, eV_0, eV_s, eB_0v, eB_0b, eB_0p, eB_0o, eB_s, eP_0v, eP_0b, eP_s, eS_0, eS_s, getS_0, getS_s, aNil_r, aCons_r, eOp_r, eUn_r, eCall_r, eBm_r, eTup_r, eLst_r, eIf_r, eAnd_r, eOr_r, eNot_r, eIs_r, eChain_r, eSl_r, oNo_r, oSo_r, asI_r, bT_r, bV_r, bYes_r, asB_r, truth_b, truth_l, truth_t, truth_n, truth_i, bAnd_r, bOr_r, bNot_r, oAdd_i, oSub_i, oNeg_i, oLt_i, oLe_i, oGt_i, oGe_i, cInt_i, cInt_b, cLen_l, cLen_t, cList_l, cList_t, cMax2_i, cMin2_i, cAbs_i, isT_int_i, isT_bool_i, isT_bool_b, isT_int_b, isT_tuple_t, isT_list_l, oEq_i, oNe_i, oEq_b, oNe_b, oIsN_n, oNotN_n, oIsN_i, oNotN_i, oIsB_b, oNotB_b, sSeqn_r, sNext_r, sBrk_r, sCnt_r, sRetN_r, sExpr_r, sRet_r, sRetOwn_r, sIf_r, sSet_r, sOwn_r, sAsg_r, gV_r, gT_r, gsNil_r, gsCons_r, sFz_r, sAug_r, addI_r, subI_r, sSeq_r, sArgs_r, itemsOf_l, itemsOf_t, sMut_r, fApp_r, Option.bind_some, Option.map_some, List.length_cons, List.length_nil, Nat.zero_add, Nat.reduceAdd, Nat.reduceLT, Nat.reduceLeDiff, List.set_cons_zero, List.set_cons_succ, if_true, Bool.false_eq_true, if_false, Bool.not_true, Bool.not_false, decide_true, decide_false, reduceCtorEq, unD_nil, unD_d, mL_r, mLB_r, mOp_r, mUn_r, mT_r, mV_r, mNot_r, mAndB_r, mOrB_r, mIte_r, maNil_r, maD_r, mF_r, mFK_r, mQ_r, mQR_r, mRv_0, mRv_s, mAndV_r, mOrV_r, mNotV_r, mNext_r, mIf_r, mSet_r, mOwn_r, mAny_r, mAsg_r, mRet_r, List.cons_append, List.nil_append, List.append_nil, q1])]; rfl)]
  exact wordTail ws y sj w (acc.map enc) b _ _ (tS n) (.tuple (ms.map tS)) (tS jb) ps nn rfl rfl la (fun z => by rw [h1 z]) h2
/-- one step's words, behind the first -/
theorem wordStep (ws : Slot) (w : Wd) (hw : hasTab "is_word" w = true) (s : Stp) (hs : Sok1 s.2.1 s.2.2) (hj : s.1 = [32] ∨ s.1 = [62]) (hz : (swL s).length ≤ 10000) (acc : List Stp) (ha : acc.length ≤ 1000) (j x y : Slot) (rest : List PyData) : ∃ x' y', mForGo (gV 4) L_parse_words_1 ((tok s).map tS ++ rest) [ws, .own (.list (acc.map enc)), j, .val (.bool false), x, y] w = mForGo (gV 4) L_parse_words_1 rest [ws, .own (.list ((acc ++ [s]).map enc)), .val (tS s.1), .val (.bool false), x', y'] w := by
  rcases hj with hj | hj
  · obtain ⟨y', e⟩ := wordOne ws y j w hw s hs hz acc ha false [32] (fun _ => rfl) (fun z => by cases z)
    have tk : tok s = [swL s] := by unfold tok; rw [hj]; rfl
    have es : (([32] : List Nat), s.2) = s := by rw [← hj]
    rw [es] at e
    refine ⟨.val (tS (swL s)), y', ?_⟩
    rw [tk, hj]
    exact mForGo_one (ρ1 := [ws, .own (.list (acc.map enc)), j, .val (.bool false), .val (tS (swL s)), y]) rfl e
  · obtain ⟨y', e⟩ := wordOne ws y (.val (tS [62])) w hw s hs hz acc ha true [62] (fun z => by cases z) (fun _ => rfl)
    have tk : tok s = [[62], swL s] := by unfold tok; rw [hj]; rfl
    have es : (([62] : List Nat), s.2) = s := by rw [← hj]
    rw [es] at e
    have q2 := tEq asc62 asc62
    rw [decide_eq_true rfl] at q2
    refine ⟨.val (tS (swL s)), y', ?_⟩
    rw [tk, hj]
    show mForGo _ _ (tS [62] :: tS (swL s) :: rest) _ _ = _
    rw [mForGo_ct (ρ1 := [ws, .own (.list (acc.map enc)), j, .val (.bool false), .val (tS [62]), y]) (ρ' := [ws, .own (.list (acc.map enc)), .val (tS [62]), .val (.bool true), .val (tS [62]), y]) (w1 := w) rfl (by
      unfold L_parse_words_1
      rw [lit_gt, lit_sp]
      unfold mSeq
      rw [mIf_t (w1 := w) (by simp -implicitDefEqProofs only [eK_r, eV_0, eV_s, eB_0v, eB_0b, eB_0p, eB_0o, eB_s, eP_0v, eP_0b, eP_s, eS_0, eS_s, getS_0, getS_s, aNil_r, aCons_r, eOp_r, eUn_r, eCall_r, eBm_r, eTup_r, eLst_r, eIf_r, eAnd_r, eOr_r, eNot_r, eIs_r, eChain_r, eSl_r, oNo_r, oSo_r, asI_r, bT_r, bV_r, bYes_r, asB_r, truth_b, truth_l, truth_t, truth_n, truth_i, bAnd_r, bOr_r, bNot_r, oAdd_i, oSub_i, oNeg_i, oLt_i, oLe_i, oGt_i, oGe_i, cInt_i, cInt_b, cLen_l, cLen_t, cList_l, cList_t, cMax2_i, cMin2_i, cAbs_i, isT_int_i, isT_bool_i, isT_bool_b, isT_int_b, isT_tuple_t, isT_list_l, oEq_i, oNe_i, oEq_b, oNe_b, oIsN_n, oNotN_n, oIsN_i, oNotN_i, oIsB_b, oNotB_b, sSeqn_r, sNext_r, sBrk_r, sCnt_r, sRetN_r, sExpr_r, sRet_r, sRetOwn_r, sIf_r, sSet_r, sOwn_r, sAsg_r, gV_r, gT_r, gsNil_r, gsCons_r, sFz_r, sAug_r, addI_r, subI_r, sSeq_r, sArgs_r, itemsOf_l, itemsOf_t, sMut_r, fApp_r, Option.bind_some, Option.map_some, List.length_cons, List.length_nil, Nat.zero_add, Nat.reduceAdd, Nat.reduceLT, Nat.reduceLeDiff, List.set_cons_zero, List.set_cons_succ, if_true, Bool.false_eq_true, if_false, Bool.not_true, Bool.not_false, decide_true, decide_false, reduceCtorEq, unD_nil, unD_d, mL_r, mLB_r, mOp_r, mUn_r, mT_r, mV_r, mNot_r, mAndB_r, mOrB_r, mIte_r, maNil_r, maD_r, mF_r, mFK_r, mQ_r, mQR_r, mRv_0, mRv_s, mAndV_r, mOrV_r, mNotV_r, mNext_r, mIf_r, mSet_r, mOwn_r, mAny_r, mAsg_r, mRet_r, List.cons_append, List.nil_append, List.append_nil, q2])]
      rw [show mS (sSet 2 (eK (tS [62]))) [ws, .own (.list (acc.map enc)), j, .val (.bool false), .val (tS [62]), y] w = some (.nx [ws, .own (.list (acc.map enc)), .val (tS [62]), .val (.bool false), .val (tS [62]), y], w) from mS_nx (by simp -implicitDefEqProofs only [eK_r, eV_0, eV_s, eB_0v, eB_0b, eB_0p, eB_0o, eB_s, eP_0v, eP_0b, eP_s, eS_0, eS_s, getS_0, getS_s, aNil_r, aCons_r, eOp_r, eUn_r, eCall_r, eBm_r, eTup_r, eLst_r, eIf_r, eAnd_r, eOr_r, eNot_r, eIs_r, eChain_r, eSl_r, oNo_r, oSo_r, asI_r, bT_r, bV_r, bYes_r, asB_r, truth_b, truth_l, truth_t, truth_n, truth_i, bAnd_r, bOr_r, bNot_r, oAdd_i, oSub_i, oNeg_i, oLt_i, oLe_i, oGt_i, oGe_i, cInt_i, cInt_b, cLen_l, cLen_t, cList_l, cList_t, cMax2_i, cMin2_i, cAbs_i, isT_int_i, isT_bool_i, isT_bool_b, isT_int_b, isT_tuple_t, isT_list_l, oEq_i, oNe_i, oEq_b, oNe_b, oIsN_n, oNotN_n, oIsN_i, oNotN_i, oIsB_b, oNotB_b, sSeqn_r, sNext_r, sBrk_r, sCnt_r, sRetN_r, sExpr_r, sRet_r, sRetOwn_r, sIf_r, sSet_r, sOwn_r, sAsg_r, gV_r, gT_r, gsNil_r, gsCons_r, sFz_r, sAug_r, addI_r, subI_r, sSeq_r, sArgs_r, itemsOf_l, itemsOf_t, sMut_r, fApp_r, Option.bind_some, Option.map_some, List.length_cons, List.length_nil, Nat.zero_add, Nat.reduceAdd, Nat.reduceLT, Nat.reduceLeDiff, List.set_cons_zero, List.set_cons_succ, if_true, Bool.false_eq_true, if_false, Bool.not_true, Bool.not_false, decide_true, decide_false, reduceCtorEq])]
      simp only [Option.bind_some]
      rw [show mS (sSet 3 (eK (.bool true))) [ws, .own (.list (acc.map enc)), .val (tS [62]), .val (.bool false), .val (tS [62]), y] w = some (.nx [ws, .own (.list (acc.map enc)), .val (tS [62]), .val (.bool true), .val (tS [62]), y], w) from mS_nx (by simp -implicitDefEqProofs only [eK_r, eV_0, eV_s, eB_0v, eB_0b, eB_0p, eB_0o, eB_s, eP_0v, eP_0b, eP_s, eS_0, eS_s, getS_0, getS_s, aNil_r, aCons_r, eOp_r, eUn_r, eCall_r, eBm_r, eTup_r, eLst_r, eIf_r, eAnd_r, eOr_r, eNot_r, eIs_r, eChain_r, eSl_r, oNo_r, oSo_r, asI_r, bT_r, bV_r, bYes_r, asB_r, truth_b, truth_l, truth_t, truth_n, truth_i, bAnd_r, bOr_r, bNot_r, oAdd_i, oSub_i, oNeg_i, oLt_i, oLe_i, oGt_i, oGe_i, cInt_i, cInt_b, cLen_l, cLen_t, cList_l, cList_t, cMax2_i, cMin2_i, cAbs_i, isT_int_i, isT_bool_i, isT_bool_b, isT_int_b, isT_tuple_t, isT_list_l, oEq_i, oNe_i, oEq_b, oNe_b, oIsN_n, oNotN_n, oIsN_i, oNotN_i, oIsB_b, oNotB_b, sSeqn_r, sNext_r, sBrk_r, sCnt_r, sRetN_r, sExpr_r, sRet_r, sRetOwn_r, sIf_r, sSet_r, sOwn_r, sAsg_r, gV_r, gT_r, gsNil_r, gsCons_r, sFz_r, sAug_r, addI_r, subI_r, sSeq_r, sArgs_r, itemsOf_l, itemsOf_t, sMut_r, fApp_r, Option.bind_some, Option.map_some, List.length_cons, List.length_nil, Nat.zero_add, Nat.reduceAdd, Nat.reduceLT, Nat.reduceLeDiff, List.set_cons_zero, List.set_cons_succ, if_true, Bool.false_eq_true, if_false, Bool.not_true, Bool.not_false, decide_true, decide_false, reduceCtorEq])]
      rfl)]
    exact mForGo_one (ρ1 := [ws, .own (.list (acc.map enc)), .val (tS [62]), .val (.bool true), .val (tS (swL s)), y]) rfl e
theorem wordsGo (ws : Slot) (w : Wd) (hw : hasTab "is_word" w = true) : ∀ (l acc : List Stp) (j x y : Slot), (∀ s ∈ l, Sok1 s.2.1 s.2.2) → (∀ s ∈ l, s.1 = [32] ∨ s.1 = [62]) → (∀ s ∈ l, (swL s).length ≤ 10000) → acc.length + l.length ≤ 1000 → ∃ j' x' y', mForGo (gV 4) L_parse_words_1 (((l.map tok).flatten).map tS) [ws, .own (.list (acc.map enc)), j, .val (.bool false), x, y] w = some (.nx [ws, .own (.list ((acc ++ l).map enc)), j', .val (.bool false), x', y'], w)
  | [], acc, j, x, y, _, _, _, _ => ⟨j, x, y, by rw [List.append_nil]; rfl⟩
  | s :: l, acc, j, x, y, h1, h2, h3, h4 => by
    rw [List.length_cons] at h4
    obtain ⟨x1, y1, e⟩ := wordStep ws w hw s (h1 s List.mem_cons_self) (h2 s List.mem_cons_self) (h3 s List.mem_cons_self) acc (by omega) j x y (((l.map tok).flatten).map tS)
    obtain ⟨j', x', y', ih⟩ := wordsGo ws w hw l (acc ++ [s]) (.val (tS s.1)) x1 y1 (fun z hz => h1 z (List.mem_cons_of_mem _ hz)) (fun z hz => h2 z (List.mem_cons_of_mem _ hz)) (fun z hz => h3 z (List.mem_cons_of_mem _ hz)) (by rw [List.length_append]; simp only [List.length_cons, List.length_nil]; omega)
    refine ⟨j', x', y', ?_⟩
    rw [List.map_cons, List.flatten_cons, List.map_append, e, ih, List.append_assoc]
    rfl
theorem pwords_eq (s : Stp) (l : List Stp) (h0 : s.1 = []) (h1 : ∀ z ∈ s :: l, Sok1 z.2.1 z.2.2) (h2 : ∀ z ∈ l, z.1 = [32] ∨ z.1 = [62]) (h3 : ∀ z ∈ s :: l, (swL z).length ≤ 10000) (h4 : l.length ≤ 900) (w : Wd) (hw : hasTab "is_word" w = true) : F_parse_words [.d (.list ((swL s :: (l.map tok).flatten).map tS))] w = some (.d (.list ((s :: l).map enc)), w) := by
  refine boxW_rt rfl ?_
  generalize hD : PyData.list ((swL s :: (l.map tok).flatten).map tS) = D
  show B_parse_words [.bor D, .un, .un, .un, .un, .un] w = _
  have l0 : (0 : Nat) ≤ sizeLine := Nat.zero_le _
  unfold B_parse_words
  rw [lit_A]
  rw [mseq_s (ρ' := [.bor D, .own (.list []), .un, .un, .un, .un]) (by simp -implicitDefEqProofs only [eK_r, eV_0, eV_s, eB_0v, eB_0b, eB_0p, eB_0o, eB_s, eP_0v, eP_0b, eP_s, eS_0, eS_s, getS_0, getS_s, aNil_r, aCons_r, eOp_r, eUn_r, eCall_r, eBm_r, eTup_r, eLst_r, eIf_r, eAnd_r, eOr_r, eNot_r, eIs_r, eChain_r, eSl_r, oNo_r, oSo_r, asI_r, bT_r, bV_r, bYes_r, asB_r, truth_b, truth_l, truth_t, truth_n, truth_i, bAnd_r, bOr_r, bNot_r, oAdd_i, oSub_i, oNeg_i, oLt_i, oLe_i, oGt_i, oGe_i, cInt_i, cInt_b, cLen_l, cLen_t, cList_l, cList_t, cMax2_i, cMin2_i, cAbs_i, isT_int_i, isT_bool_i, isT_bool_b, isT_int_b, isT_tuple_t, isT_list_l, oEq_i, oNe_i, oEq_b, oNe_b, oIsN_n, oNotN_n, oIsN_i, oNotN_i, oIsB_b, oNotB_b, sSeqn_r, sNext_r, sBrk_r, sCnt_r, sRetN_r, sExpr_r, sRet_r, sRetOwn_r, sIf_r, sSet_r, sOwn_r, sAsg_r, gV_r, gT_r, gsNil_r, gsCons_r, sFz_r, sAug_r, addI_r, subI_r, sSeq_r, sArgs_r, itemsOf_l, itemsOf_t, sMut_r, fApp_r, Option.bind_some, Option.map_some, List.length_cons, List.length_nil, Nat.zero_add, Nat.reduceAdd, Nat.reduceLT, Nat.reduceLeDiff, List.set_cons_zero, List.set_cons_succ, if_true, Bool.false_eq_true, if_false, Bool.not_true, Bool.not_false, decide_true, decide_false, reduceCtorEq, l0])]
  rw [mseq_s (ρ' := [.bor D, .own (.list []), .val (tS []), .un, .un, .un]) (by simp -implicitDefEqProofs only [eK_r, eV_0, eV_s, eB_0v, eB_0b, eB_0p, eB_0o, eB_s, eP_0v, eP_0b, eP_s, eS_0, eS_s, getS_0, getS_s, aNil_r, aCons_r, eOp_r, eUn_r, eCall_r, eBm_r, eTup_r, eLst_r, eIf_r, eAnd_r, eOr_r, eNot_r, eIs_r, eChain_r, eSl_r, oNo_r, oSo_r, asI_r, bT_r, bV_r, bYes_r, asB_r, truth_b, truth_l, truth_t, truth_n, truth_i, bAnd_r, bOr_r, bNot_r, oAdd_i, oSub_i, oNeg_i, oLt_i, oLe_i, oGt_i, oGe_i, cInt_i, cInt_b, cLen_l, cLen_t, cList_l, cList_t, cMax2_i, cMin2_i, cAbs_i, isT_int_i, isT_bool_i, isT_bool_b, isT_int_b, isT_tuple_t, isT_list_l, oEq_i, oNe_i, oEq_b, oNe_b, oIsN_n, oNotN_n, oIsN_i, oNotN_i, oIsB_b, oNotB_b, sSeqn_r, sNext_r, sBrk_r, sCnt_r, sRetN_r, sExpr_r, sRet_r, sRetOwn_r, sIf_r, sSet_r, sOwn_r, sAsg_r, gV_r, gT_r, gsNil_r, gsCons_r, sFz_r, sAug_r, addI_r, subI_r, sSeq_r, sArgs_r, itemsOf_l, itemsOf_t, sMut_r, fApp_r, Option.bind_some, Option.map_some, List.length_cons, List.length_nil, Nat.zero_add, Nat.reduceAdd, Nat.reduceLT, Nat.reduceLeDiff, List.set_cons_zero, List.set_cons_succ, if_true, Bool.false_eq_true, if_false, Bool.not_true, Bool.not_false, decide_true, decide_false, reduceCtorEq])]
  rw [mseq_s (ρ' := [.bor D, .own (.list []), .val (tS []), .val (.bool true), .un, .un]) (by simp -implicitDefEqProofs only [eK_r, eV_0, eV_s, eB_0v, eB_0b, eB_0p, eB_0o, eB_s, eP_0v, eP_0b, eP_s, eS_0, eS_s, getS_0, getS_s, aNil_r, aCons_r, eOp_r, eUn_r, eCall_r, eBm_r, eTup_r, eLst_r, eIf_r, eAnd_r, eOr_r, eNot_r, eIs_r, eChain_r, eSl_r, oNo_r, oSo_r, asI_r, bT_r, bV_r, bYes_r, asB_r, truth_b, truth_l, truth_t, truth_n, truth_i, bAnd_r, bOr_r, bNot_r, oAdd_i, oSub_i, oNeg_i, oLt_i, oLe_i, oGt_i, oGe_i, cInt_i, cInt_b, cLen_l, cLen_t, cList_l, cList_t, cMax2_i, cMin2_i, cAbs_i, isT_int_i, isT_bool_i, isT_bool_b, isT_int_b, isT_tuple_t, isT_list_l, oEq_i, oNe_i, oEq_b, oNe_b, oIsN_n, oNotN_n, oIsN_i, oNotN_i, oIsB_b, oNotB_b, sSeqn_r, sNext_r, sBrk_r, sCnt_r, sRetN_r, sExpr_r, sRet_r, sRetOwn_r, sIf_r, sSet_r, sOwn_r, sAsg_r, gV_r, gT_r, gsNil_r, gsCons_r, sFz_r, sAug_r, addI_r, subI_r, sSeq_r, sArgs_r, itemsOf_l, itemsOf_t, sMut_r, fApp_r, Option.bind_some, Option.map_some, List.length_cons, List.length_nil, Nat.zero_add, Nat.reduceAdd, Nat.reduceLT, Nat.reduceLeDiff, List.set_cons_zero, List.set_cons_succ, if_true, Bool.false_eq_true, if_false, Bool.not_true, Bool.not_false, decide_true, decide_false, reduceCtorEq])]
  obtain ⟨y1, e1⟩ := wordOne (.bor D) .un (.val (tS [])) w hw s (h1 s List.mem_cons_self) (h3 s List.mem_cons_self) [] (by simp) true [] (fun z => by cases z) (fun _ => rfl)
  have es : (([] : List Nat), s.2) = s := by rw [← h0]
  rw [es] at e1
  obtain ⟨j', x', y', e2⟩ := wordsGo (.bor D) w hw l [s] (.val (tS [])) (.val (tS (swL s))) y1 (fun z hz => h1 z (List.mem_cons_of_mem _ hz)) h2 (fun z hz => h3 z (List.mem_cons_of_mem _ hz)) (by simp only [List.length_cons, List.length_nil]; omega)
  have lp : mForGo (gV 4) L_parse_words_1 ((swL s :: (l.map tok).flatten).map tS) [.bor D, .own (.list []), .val (tS []), .val (.bool true), .un, .un] w = some (.nx [.bor D, .own (.list ((s :: l).map enc)), j', .val (.bool false), x', y'], w) := by
    rw [List.map_cons, mForGo_one (ρ1 := [.bor D, .own (.list []), .val (tS []), .val (.bool true), .val (tS (swL s)), .un]) rfl e1]
    exact e2
  rw [mseq_nx ((mFor_eq (w1 := w) (mSeqI_eq (d := D) (w1 := w) rfl (by rw [← hD]; rfl))).trans lp)]
  generalize PyData.list ((s :: l).map enc) = R
  show mFz 1 _ [.bor D, .own R, j', .val (.bool false), x', y'] w = _
  unfold mFz
  show mRet _ [.bor D, .val R, j', .val (.bool false), x', y'] w = _
  simp -implicitDefEqProofs only [eK_r, eV_0, eV_s, eB_0v, eB_0b, eB_0p, eB_0o, eB_s, eP_0v, eP_0b, eP_s, eS_0, eS_s, getS_0, getS_s, aNil_r, aCons_r, eOp_r, eUn_r, eCall_r, eBm_r, eTup_r, eLst_r, eIf_r, eAnd_r, eOr_r, eNot_r, eIs_r, eChain_r, eSl_r, oNo_r, oSo_r, asI_r, bT_r, bV_r, bYes_r, asB_r, truth_b, truth_l, truth_t, truth_n, truth_i, bAnd_r, bOr_r, bNot_r, oAdd_i, oSub_i, oNeg_i, oLt_i, oLe_i, oGt_i, oGe_i, cInt_i, cInt_b, cLen_l, cLen_t, cList_l, cList_t, cMax2_i, cMin2_i, cAbs_i, isT_int_i, isT_bool_i, isT_bool_b, isT_int_b, isT_tuple_t, isT_list_l, oEq_i, oNe_i, oEq_b, oNe_b, oIsN_n, oNotN_n, oIsN_i, oNotN_i, oIsB_b, oNotB_b, sSeqn_r, sNext_r, sBrk_r, sCnt_r, sRetN_r, sExpr_r, sRet_r, sRetOwn_r, sIf_r, sSet_r, sOwn_r, sAsg_r, gV_r, gT_r, gsNil_r, gsCons_r, sFz_r, sAug_r, addI_r, subI_r, sSeq_r, sArgs_r, itemsOf_l, itemsOf_t, sMut_r, fApp_r, Option.bind_some, Option.map_some, List.length_cons, List.length_nil, Nat.zero_add, Nat.reduceAdd, Nat.reduceLT, Nat.reduceLeDiff, List.set_cons_zero, List.set_cons_succ, if_true, Bool.false_eq_true, if_false, Bool.not_true, Bool.not_false, decide_true, decide_false, reduceCtorEq, unD_nil, unD_d, mL_r, mLB_r, mOp_r, mUn_r, mT_r, mV_r, mNot_r, mAndB_r, mOrB_r, mIte_r, maNil_r, maD_r, mF_r, mFK_r, mQ_r, mQR_r, mRv_0, mRv_s, mAndV_r, mOrV_r, mNotV_r, mNext_r, mIf_r, mSet_r, mOwn_r, mAny_r, mAsg_r, mRet_r, List.cons_append, List.nil_append, List.append_nil]
theorem psel_eq (s : Stp) (l : List Stp) (h0 : s.1 = []) (h1 : ∀ z ∈ s :: l, Sok1 z.2.1 z.2.2) (h2 : ∀ z ∈ l, z.1 = [32] ∨ z.1 = [62]) (h3 : (wrL (s :: l)).length ≤ 100) (h4 : l.length ≤ 3) (w : Wd) (hw : hasTab "is_word" w = true) : F_parse_selector [.d (tS (wrL (s :: l)))] w = some (.d (.tuple ((s :: l).map enc)), w) := by
  have e0 : wrL (s :: l) = swL s ++ (((l.map tok).flatten).map fun m => 32 :: m).flatten := by
    rw [wrL_cons, h0, toks_wr l h2]
    rfl
  have ns : ∀ p ∈ swL s :: (l.map tok).flatten, (32 : Nat) ∉ p := fun p hp => by
    rcases List.mem_cons.mp hp with rfl | hp
    · exact sw_ne (j := s.1) (h1 s List.mem_cons_self) (by decide) (by decide) (by decide)
    · obtain ⟨q, hq, hp⟩ := List.mem_flatten.mp hp
      obtain ⟨z, hz, rfl⟩ := List.mem_map.mp hq
      have nz : (32 : Nat) ∉ swL z := sw_ne (j := z.1) (h1 z (List.mem_cons_of_mem _ hz)) (by decide) (by decide) (by decide)
      unfold tok at hp
      split at hp
      · rcases List.mem_cons.mp hp with rfl | hp
        · decide
        · rw [List.mem_singleton.mp hp]; exact nz
      · rw [List.mem_singleton.mp hp]; exact nz
  have sp : oSplit (tS (wrL (s :: l))) (tS [32]) = some (.list ((swL s :: (l.map tok).flatten).map tS)) := by
    rw [e0]
    exact split_codes 32 (by decide) _ _ ns (by rw [← e0]; omega)
  have sz : ∀ z ∈ s :: l, (swL z).length ≤ 10000 := fun z hz => by
    have : (swL z).length ≤ (wrL (s :: l)).length := by
      obtain ⟨a, b, e⟩ := List.append_of_mem hz
      rw [e, wrL_app, wrL_cons]
      simp only [List.length_append]
      omega
    omega
  have pw := pwords_eq s l h0 h1 h2 sz (by omega) w hw
  have is : isT "str" (tS (wrL (s :: l))) = some true := rfl
  have ln := tLen (wrL (s :: l)) (by omega)
  have nn := isN_no' (v := .list ((s :: l).map enc)) (by simp)
  have c1 : ((100 : Int) < ((wrL (s :: l)).length : Nat)) = False := eq_false (by omega)
  have cl : cLen [.list ((s :: l).map enc)] = some (.int ((l.length + 1 : Nat))) := by
    show some (PyData.int (((s :: l).map enc).length : Nat)) = _
    rw [List.length_map, List.length_cons]
  have c2 : ((4 : Int) < ((l.length + 1 : Nat))) = False := eq_false (by omega)
  have ct : cTuple [.list ((s :: l).map enc)] = some (.tuple ((s :: l).map enc)) := rfl
  refine boxW_rt rfl ?_
  generalize (wrL (s :: l)).length = L at *
  generalize tS (wrL (s :: l)) = TX at *
  generalize PyData.list ((swL s :: (l.map tok).flatten).map tS) = SP at *
  generalize PyData.list ((s :: l).map enc) = R at *
  show B_parse_selector [.bor TX, .un] w = _
  unfold B_parse_selector
  rw [lit_sp]
  rw [mseq_nx (ρ' := [.bor TX, .un]) (w1 := w) (by rw [mIf_f (w1 := w) (by simp -implicitDefEqProofs only [eK_r, eV_0, eV_s, eB_0v, eB_0b, eB_0p, eB_0o, eB_s, eP_0v, eP_0b, eP_s, eS_0, eS_s, getS_0, getS_s, aNil_r, aCons_r, eOp_r, eUn_r, eCall_r, eBm_r, eTup_r, eLst_r, eIf_r, eAnd_r, eOr_r, eNot_r, eIs_r, eChain_r, eSl_r, oNo_r, oSo_r, asI_r, bT_r, bV_r, bYes_r, asB_r, truth_b, truth_l, truth_t, truth_n, truth_i, bAnd_r, bOr_r, bNot_r, oAdd_i, oSub_i, oNeg_i, oLt_i, oLe_i, oGt_i, oGe_i, cInt_i, cInt_b, cLen_l, cLen_t, cList_l, cList_t, cMax2_i, cMin2_i, cAbs_i, isT_int_i, isT_bool_i, isT_bool_b, isT_int_b, isT_tuple_t, isT_list_l, oEq_i, oNe_i, oEq_b, oNe_b, oIsN_n, oNotN_n, oIsN_i, oNotN_i, oIsB_b, oNotB_b, sSeqn_r, sNext_r, sBrk_r, sCnt_r, sRetN_r, sExpr_r, sRet_r, sRetOwn_r, sIf_r, sSet_r, sOwn_r, sAsg_r, gV_r, gT_r, gsNil_r, gsCons_r, sFz_r, sAug_r, addI_r, subI_r, sSeq_r, sArgs_r, itemsOf_l, itemsOf_t, sMut_r, fApp_r, Option.bind_some, Option.map_some, List.length_cons, List.length_nil, Nat.zero_add, Nat.reduceAdd, Nat.reduceLT, Nat.reduceLeDiff, List.set_cons_zero, List.set_cons_succ, if_true, Bool.false_eq_true, if_false, Bool.not_true, Bool.not_false, decide_true, decide_false, reduceCtorEq, unD_nil, unD_d, mL_r, mLB_r, mOp_r, mUn_r, mT_r, mV_r, mNot_r, mAndB_r, mOrB_r, mIte_r, maNil_r, maD_r, mF_r, mFK_r, mQ_r, mQR_r, mRv_0, mRv_s, mAndV_r, mOrV_r, mNotV_r, mNext_r, mIf_r, mSet_r, mOwn_r, mAny_r, mAsg_r, mRet_r, List.cons_append, List.nil_append, List.append_nil, is, ln, c1])]; rfl)]
  rw [mseq_nx (mSet_eq (d := R) (w1 := w) (mCall_eq (args := [.d SP]) (w1 := w) (by simp -implicitDefEqProofs only [eK_r, eV_0, eV_s, eB_0v, eB_0b, eB_0p, eB_0o, eB_s, eP_0v, eP_0b, eP_s, eS_0, eS_s, getS_0, getS_s, aNil_r, aCons_r, eOp_r, eUn_r, eCall_r, eBm_r, eTup_r, eLst_r, eIf_r, eAnd_r, eOr_r, eNot_r, eIs_r, eChain_r, eSl_r, oNo_r, oSo_r, asI_r, bT_r, bV_r, bYes_r, asB_r, truth_b, truth_l, truth_t, truth_n, truth_i, bAnd_r, bOr_r, bNot_r, oAdd_i, oSub_i, oNeg_i, oLt_i, oLe_i, oGt_i, oGe_i, cInt_i, cInt_b, cLen_l, cLen_t, cList_l, cList_t, cMax2_i, cMin2_i, cAbs_i, isT_int_i, isT_bool_i, isT_bool_b, isT_int_b, isT_tuple_t, isT_list_l, oEq_i, oNe_i, oEq_b, oNe_b, oIsN_n, oNotN_n, oIsN_i, oNotN_i, oIsB_b, oNotB_b, sSeqn_r, sNext_r, sBrk_r, sCnt_r, sRetN_r, sExpr_r, sRet_r, sRetOwn_r, sIf_r, sSet_r, sOwn_r, sAsg_r, gV_r, gT_r, gsNil_r, gsCons_r, sFz_r, sAug_r, addI_r, subI_r, sSeq_r, sArgs_r, itemsOf_l, itemsOf_t, sMut_r, fApp_r, Option.bind_some, Option.map_some, List.length_cons, List.length_nil, Nat.zero_add, Nat.reduceAdd, Nat.reduceLT, Nat.reduceLeDiff, List.set_cons_zero, List.set_cons_succ, if_true, Bool.false_eq_true, if_false, Bool.not_true, Bool.not_false, decide_true, decide_false, reduceCtorEq, unD_nil, unD_d, mL_r, mLB_r, mOp_r, mUn_r, mT_r, mV_r, mNot_r, mAndB_r, mOrB_r, mIte_r, maNil_r, maD_r, mF_r, mFK_r, mQ_r, mQR_r, mRv_0, mRv_s, mAndV_r, mOrV_r, mNotV_r, mNext_r, mIf_r, mSet_r, mOwn_r, mAny_r, mAsg_r, mRet_r, List.cons_append, List.nil_append, List.append_nil, sp]) pw) (by simp))]
  show mSeq _ _ [.bor TX, .val R] w = _
  rw [mseq_nx (ρ' := [.bor TX, .val R]) (w1 := w) (by rw [mIf_f (w1 := w) (by simp -implicitDefEqProofs only [eK_r, eV_0, eV_s, eB_0v, eB_0b, eB_0p, eB_0o, eB_s, eP_0v, eP_0b, eP_s, eS_0, eS_s, getS_0, getS_s, aNil_r, aCons_r, eOp_r, eUn_r, eCall_r, eBm_r, eTup_r, eLst_r, eIf_r, eAnd_r, eOr_r, eNot_r, eIs_r, eChain_r, eSl_r, oNo_r, oSo_r, asI_r, bT_r, bV_r, bYes_r, asB_r, truth_b, truth_l, truth_t, truth_n, truth_i, bAnd_r, bOr_r, bNot_r, oAdd_i, oSub_i, oNeg_i, oLt_i, oLe_i, oGt_i, oGe_i, cInt_i, cInt_b, cLen_l, cLen_t, cList_l, cList_t, cMax2_i, cMin2_i, cAbs_i, isT_int_i, isT_bool_i, isT_bool_b, isT_int_b, isT_tuple_t, isT_list_l, oEq_i, oNe_i, oEq_b, oNe_b, oIsN_n, oNotN_n, oIsN_i, oNotN_i, oIsB_b, oNotB_b, sSeqn_r, sNext_r, sBrk_r, sCnt_r, sRetN_r, sExpr_r, sRet_r, sRetOwn_r, sIf_r, sSet_r, sOwn_r, sAsg_r, gV_r, gT_r, gsNil_r, gsCons_r, sFz_r, sAug_r, addI_r, subI_r, sSeq_r, sArgs_r, itemsOf_l, itemsOf_t, sMut_r, fApp_r, Option.bind_some, Option.map_some, List.length_cons, List.length_nil, Nat.zero_add, Nat.reduceAdd, Nat.reduceLT, Nat.reduceLeDiff, List.set_cons_zero, List.set_cons_succ, if_true, Bool.false_eq_true, if_false, Bool.not_true, Bool.not_false, decide_true, decide_false, reduceCtorEq, unD_nil, unD_d, mL_r, mLB_r, mOp_r, mUn_r, mT_r, mV_r, mNot_r, mAndB_r, mOrB_r, mIte_r, maNil_r, maD_r, mF_r, mFK_r, mQ_r, mQR_r, mRv_0, mRv_s, mAndV_r, mOrV_r, mNotV_r, mNext_r, mIf_r, mSet_r, mOwn_r, mAny_r, mAsg_r, mRet_r, List.cons_append, List.nil_append, List.append_nil, nn, cl, c2])]; rfl)]
  simp -implicitDefEqProofs only [eK_r, eV_0, eV_s, eB_0v, eB_0b, eB_0p, eB_0o, eB_s, eP_0v, eP_0b, eP_s, eS_0, eS_s, getS_0, getS_s, aNil_r, aCons_r, eOp_r, eUn_r, eCall_r, eBm_r, eTup_r, eLst_r, eIf_r, eAnd_r, eOr_r, eNot_r, eIs_r, eChain_r, eSl_r, oNo_r, oSo_r, asI_r, bT_r, bV_r, bYes_r, asB_r, truth_b, truth_l, truth_t, truth_n, truth_i, bAnd_r, bOr_r, bNot_r, oAdd_i, oSub_i, oNeg_i, oLt_i, oLe_i, oGt_i, oGe_i, cInt_i, cInt_b, cLen_l, cLen_t, cList_l, cList_t, cMax2_i, cMin2_i, cAbs_i, isT_int_i, isT_bool_i, isT_bool_b, isT_int_b, isT_tuple_t, isT_list_l, oEq_i, oNe_i, oEq_b, oNe_b, oIsN_n, oNotN_n, oIsN_i, oNotN_i, oIsB_b, oNotB_b, sSeqn_r, sNext_r, sBrk_r, sCnt_r, sRetN_r, sExpr_r, sRet_r, sRetOwn_r, sIf_r, sSet_r, sOwn_r, sAsg_r, gV_r, gT_r, gsNil_r, gsCons_r, sFz_r, sAug_r, addI_r, subI_r, sSeq_r, sArgs_r, itemsOf_l, itemsOf_t, sMut_r, fApp_r, Option.bind_some, Option.map_some, List.length_cons, List.length_nil, Nat.zero_add, Nat.reduceAdd, Nat.reduceLT, Nat.reduceLeDiff, List.set_cons_zero, List.set_cons_succ, if_true, Bool.false_eq_true, if_false, Bool.not_true, Bool.not_false, decide_true, decide_false, reduceCtorEq, unD_nil, unD_d, mL_r, mLB_r, mOp_r, mUn_r, mT_r, mV_r, mNot_r, mAndB_r, mOrB_r, mIte_r, maNil_r, maD_r, mF_r, mFK_r, mQ_r, mQR_r, mRv_0, mRv_s, mAndV_r, mOrV_r, mNotV_r, mNext_r, mIf_r, mSet_r, mOwn_r, mAny_r, mAsg_r, mRet_r, List.cons_append, List.nil_append, List.append_nil, ct]
/-! ### weights -/
def many (l : List Stp) : Int := (l.map fun s => ((s.2.2.length : Nat) : Int)).sum
def isNm (s : Stp) : Bool := !decide (s.2.1 = [42]) && !decide (s.2.1 = [])
def nams (l : List Stp) : Int := ((l.filter isNm).map fun _ => (1 : Int)).sum
theorem many_cons (s : Stp) (l : List Stp) : many (s :: l) = (s.2.2.length : Nat) + many l := by unfold many; rw [List.map_cons, List.sum_cons]
theorem nams_cons (s : Stp) (l : List Stp) : nams (s :: l) = (if isNm s = true then 1 else 0) + nams l := by
  unfold nams
  by_cases h : isNm s = true
  · rw [List.filter_cons_of_pos h, List.map_cons, List.sum_cons, if_pos h]
  · rw [List.filter_cons_of_neg h, if_neg h]; omega
theorem many_app (a b : List Stp) : many (a ++ b) = many a + many b := by
  unfold many; rw [List.map_append, List.sum_append]
theorem nams_app (a b : List Stp) : nams (a ++ b) = nams a + nams b := by
  unfold nams; rw [List.filter_append, List.map_append, List.sum_append]
theorem notin_eq (n : List Nat) : oNotInF (tS n) (.tuple [tS [42], tS []]) = some (.bool (!decide (n = [42]) && !decide (n = []))) := by
  have e := oNotInF_s ⟨n.toArray⟩ [⟨[42].toArray⟩, ⟨([] : List Nat).toArray⟩]
  refine (show oNotInF (tS n) (.tuple [tS [42], tS []]) = _ from e).trans ?_
  congr 2
  have i1 : ((⟨n.toArray⟩ : Str) = ⟨[42].toArray⟩) ↔ n = [42] := ⟨fun h => mk_inj h, fun h => by rw [h]⟩
  have i2 : ((⟨n.toArray⟩ : Str) = ⟨([] : List Nat).toArray⟩) ↔ n = [] := ⟨fun h => mk_inj h, fun h => by rw [h]⟩
  by_cases a : n = [42]
  · simp only [List.mem_cons, List.not_mem_nil, or_false, i1, i2, a]; simp
  · by_cases b : n = []
    · simp only [List.mem_cons, List.not_mem_nil, or_false, i1, i2, b]; simp
    · simp only [List.mem_cons, List.not_mem_nil, or_false, i1, i2, a, b]; simp
theorem weight_eq (l : List Stp) (hl : l.length ≤ 1000) : F_weight [.tuple (l.map enc)] = some (.tuple [.int (many l), .int (nams l)]) := by
  refine box_rt rfl ?_
  show B_weight [.bor (.tuple (l.map enc)), .un, .un, .un] = _
  have x2 : ∀ s : Stp, oIx (enc s) (.int 2) = some (.tuple (s.2.2.map tS)) := fun s => rfl
  have x1 : ∀ s : Stp, oIx (enc s) (.int 1) = some (tS s.2.1) := fun s => rfl
  have cl : ∀ s : Stp, cLen [.tuple (s.2.2.map tS)] = some (.int (s.2.2.length : Nat)) := fun s => by
    show some (PyData.int ((s.2.2.map tS).length : Nat)) = _
    rw [List.length_map]
  have l2 : (0 + 1 + 1 : Nat) ≤ sizeLine := size_le (by decide)
  have e1 : eCall cSum (aCons (eLc (sSeq (eB 0)) (gV 3) bYes (eCall cLen (aCons (eOp oIx (eB 3) (eK (.int 2))) aNil)) [3]) aNil) [.bor (.tuple (l.map enc)), .un, .un, .un] = some (.int (many l)) := by
    have g := lcGo_map (ρ := [.bor (.tuple (l.map enc)), .un, .un, .un]) (g := gV 3) (t := bYes) (e := eCall cLen (aCons (eOp oIx (eB 3) (eK (.int 2))) aNil)) enc (fun s => PyData.int (s.2.2.length : Nat)) l (fun s hs => ⟨[.bor (.tuple (l.map enc)), .un, .un, .val (enc s)], rfl, rfl, by simp -implicitDefEqProofs only [eK_r, eV_0, eV_s, eB_0v, eB_0b, eB_0p, eB_0o, eB_s, eP_0v, eP_0b, eP_s, eS_0, eS_s, getS_0, getS_s, aNil_r, aCons_r, eOp_r, eUn_r, eCall_r, eBm_r, eTup_r, eLst_r, eIf_r, eAnd_r, eOr_r, eNot_r, eIs_r, eChain_r, eSl_r, oNo_r, oSo_r, asI_r, bT_r, bV_r, bYes_r, asB_r, truth_b, truth_l, truth_t, truth_n, truth_i, bAnd_r, bOr_r, bNot_r, oAdd_i, oSub_i, oNeg_i, oLt_i, oLe_i, oGt_i, oGe_i, cInt_i, cInt_b, cLen_l, cLen_t, cList_l, cList_t, cMax2_i, cMin2_i, cAbs_i, isT_int_i, isT_bool_i, isT_bool_b, isT_int_b, isT_tuple_t, isT_list_l, oEq_i, oNe_i, oEq_b, oNe_b, oIsN_n, oNotN_n, oIsN_i, oNotN_i, oIsB_b, oNotB_b, sSeqn_r, sNext_r, sBrk_r, sCnt_r, sRetN_r, sExpr_r, sRet_r, sRetOwn_r, sIf_r, sSet_r, sOwn_r, sAsg_r, gV_r, gT_r, gsNil_r, gsCons_r, sFz_r, sAug_r, addI_r, subI_r, sSeq_r, sArgs_r, itemsOf_l, itemsOf_t, sMut_r, fApp_r, Option.bind_some, Option.map_some, List.length_cons, List.length_nil, Nat.zero_add, Nat.reduceAdd, Nat.reduceLT, Nat.reduceLeDiff, List.set_cons_zero, List.set_cons_succ, if_true, Bool.false_eq_true, if_false, Bool.not_true, Bool.not_false, decide_true, decide_false, reduceCtorEq, x2 s, cl s]⟩)
    have e : eLc (sSeq (eB 0)) (gV 3) bYes (eCall cLen (aCons (eOp oIx (eB 3) (eK (.int 2))) aNil)) [3] [.bor (.tuple (l.map enc)), .un, .un, .un] = some (.list ((l.map fun s => ((s.2.2.length : Nat) : Int)).map PyData.int)) := by
      rw [eLc_r, sSeq_r, eB_0b, Option.bind_some, itemsOf_t, Option.bind_some]
      show (lcGo _ _ _ [.bor (.tuple (l.map enc)), .un, .un, .un] _).bind _ = _
      rw [g, Option.bind_some, if_pos (size_le (by rw [List.length_map]; omega)), List.map_map]
      rfl
    rw [eCall_r, aCons_r, e, Option.bind_some, aNil_r, Option.bind_some, Option.bind_some, cSum_i]
    rfl
  have e2 : eCall cSum (aCons (eLc (sSeq (eB 0)) (gV 3) (bT (eOp oNotInF (eOp oIx (eB 3) (eK (.int 1))) (eTup (aCons (eK (tS [42])) (aCons (eK (tS [])) aNil))))) (eK (.int 1)) [3]) aNil) [.bor (.tuple (l.map enc)), .val (.int (many l)), .un, .un] = some (.int (nams l)) := by
    have g := lcGo_filter (ρ := [.bor (.tuple (l.map enc)), .val (.int (many l)), .un, .un]) (g := gV 3) (t := bT (eOp oNotInF (eOp oIx (eB 3) (eK (.int 1))) (eTup (aCons (eK (tS [42])) (aCons (eK (tS [])) aNil))))) (e := eK (.int 1)) enc (fun _ => PyData.int 1) isNm l (fun s hs => ⟨[.bor (.tuple (l.map enc)), .val (.int (many l)), .un, .val (enc s)], rfl, by
      have nq := notin_eq s.2.1
      simp -implicitDefEqProofs only [eK_r, eV_0, eV_s, eB_0v, eB_0b, eB_0p, eB_0o, eB_s, eP_0v, eP_0b, eP_s, eS_0, eS_s, getS_0, getS_s, aNil_r, aCons_r, eOp_r, eUn_r, eCall_r, eBm_r, eTup_r, eLst_r, eIf_r, eAnd_r, eOr_r, eNot_r, eIs_r, eChain_r, eSl_r, oNo_r, oSo_r, asI_r, bT_r, bV_r, bYes_r, asB_r, truth_b, truth_l, truth_t, truth_n, truth_i, bAnd_r, bOr_r, bNot_r, oAdd_i, oSub_i, oNeg_i, oLt_i, oLe_i, oGt_i, oGe_i, cInt_i, cInt_b, cLen_l, cLen_t, cList_l, cList_t, cMax2_i, cMin2_i, cAbs_i, isT_int_i, isT_bool_i, isT_bool_b, isT_int_b, isT_tuple_t, isT_list_l, oEq_i, oNe_i, oEq_b, oNe_b, oIsN_n, oNotN_n, oIsN_i, oNotN_i, oIsB_b, oNotB_b, sSeqn_r, sNext_r, sBrk_r, sCnt_r, sRetN_r, sExpr_r, sRet_r, sRetOwn_r, sIf_r, sSet_r, sOwn_r, sAsg_r, gV_r, gT_r, gsNil_r, gsCons_r, sFz_r, sAug_r, addI_r, subI_r, sSeq_r, sArgs_r, itemsOf_l, itemsOf_t, sMut_r, fApp_r, Option.bind_some, Option.map_some, List.length_cons, List.length_nil, Nat.zero_add, Nat.reduceAdd, Nat.reduceLT, Nat.reduceLeDiff, List.set_cons_zero, List.set_cons_succ, if_true, Bool.false_eq_true, if_false, Bool.not_true, Bool.not_false, decide_true, decide_false, reduceCtorEq, x1 s, l2, nq]
      rfl, fun _ => rfl⟩)
    have e : eLc (sSeq (eB 0)) (gV 3) (bT (eOp oNotInF (eOp oIx (eB 3) (eK (.int 1))) (eTup (aCons (eK (tS [42])) (aCons (eK (tS [])) aNil))))) (eK (.int 1)) [3] [.bor (.tuple (l.map enc)), .val (.int (many l)), .un, .un] = some (.list (((l.filter isNm).map fun _ => (1 : Int)).map PyData.int)) := by
      rw [eLc_r, sSeq_r, eB_0b, Option.bind_some, itemsOf_t, Option.bind_some]
      show (lcGo _ _ _ [.bor (.tuple (l.map enc)), .val (.int (many l)), .un, .un] _).bind _ = _
      rw [g, Option.bind_some, if_pos (size_le (by rw [List.length_map]; have := List.length_filter_le isNm l; omega)), List.map_map]
      rfl
    rw [eCall_r, aCons_r, e, Option.bind_some, aNil_r, Option.bind_some, Option.bind_some, cSum_i]
    rfl
  unfold B_weight
  rw [lit_star, lit_A]
  rw [seq_nx (ρ' := [.bor (.tuple (l.map enc)), .val (.int (many l)), .un, .un]) (by rw [sSet_r, e1]; rfl)]
  rw [seq_nx (ρ' := [.bor (.tuple (l.map enc)), .val (.int (many l)), .val (.int (nams l)), .un]) (by rw [sSet_r, e2]; rfl)]
  simp -implicitDefEqProofs only [eK_r, eV_0, eV_s, eB_0v, eB_0b, eB_0p, eB_0o, eB_s, eP_0v, eP_0b, eP_s, eS_0, eS_s, getS_0, getS_s, aNil_r, aCons_r, eOp_r, eUn_r, eCall_r, eBm_r, eTup_r, eLst_r, eIf_r, eAnd_r, eOr_r, eNot_r, eIs_r, eChain_r, eSl_r, oNo_r, oSo_r, asI_r, bT_r, bV_r, bYes_r, asB_r, truth_b, truth_l, truth_t, truth_n, truth_i, bAnd_r, bOr_r, bNot_r, oAdd_i, oSub_i, oNeg_i, oLt_i, oLe_i, oGt_i, oGe_i, cInt_i, cInt_b, cLen_l, cLen_t, cList_l, cList_t, cMax2_i, cMin2_i, cAbs_i, isT_int_i, isT_bool_i, isT_bool_b, isT_int_b, isT_tuple_t, isT_list_l, oEq_i, oNe_i, oEq_b, oNe_b, oIsN_n, oNotN_n, oIsN_i, oNotN_i, oIsB_b, oNotB_b, sSeqn_r, sNext_r, sBrk_r, sCnt_r, sRetN_r, sExpr_r, sRet_r, sRetOwn_r, sIf_r, sSet_r, sOwn_r, sAsg_r, gV_r, gT_r, gsNil_r, gsCons_r, sFz_r, sAug_r, addI_r, subI_r, sSeq_r, sArgs_r, itemsOf_l, itemsOf_t, sMut_r, fApp_r, Option.bind_some, Option.map_some, List.length_cons, List.length_nil, Nat.zero_add, Nat.reduceAdd, Nat.reduceLT, Nat.reduceLeDiff, List.set_cons_zero, List.set_cons_succ, if_true, Bool.false_eq_true, if_false, Bool.not_true, Bool.not_false, decide_true, decide_false, reduceCtorEq, l2]
theorem asc_n {n : List Nat} {ms : List (List Nat)} (h : Sok1 n ms) : Asc n := by
  rcases h.n with ⟨z, _⟩ | ⟨z, _⟩ | z
  · rw [z]; exact Asc.one (by decide)
  · rw [z]; exact Asc.nil
  · exact z.asc
theorem dueGo (st : Slot) : ∀ (l : List Stp) (a b : Int) (x y z : Slot), (∀ s ∈ l, Sok1 s.2.1 s.2.2) → ∃ x' y' z', forGo (gT 3 (gsCons (gV 3) (gsCons (gV 4) (gsCons (gV 5) gsNil)))) L__law_due_1 (l.map enc) [st, .val (.int a), .val (.int b), x, y, z] = some (.nx [st, .val (.int (a + many l)), .val (.int (b + nams l)), x', y', z'])
  | [], a, b, x, y, z, _ => ⟨x, y, z, by
    show some (Out.nx _) = _
    rw [show many [] = 0 from rfl, show nams [] = 0 from rfl, Int.add_zero, Int.add_zero]⟩
  | s :: l, a, b, x, y, z, h => by
    obtain ⟨j, n, ms⟩ := s
    have hs : Sok1 n ms := h _ List.mem_cons_self
    have cl : cLen [.tuple (ms.map tS)] = some (.int (ms.length : Nat)) := by
      show some (PyData.int ((ms.map tS).length : Nat)) = _
      rw [List.length_map]
    have q1 := tNe (asc_n hs) Asc.nil
    have q2 := tNe (asc_n hs) (show Asc [42] from Asc.one (by decide))
    obtain ⟨x', y', z', ih⟩ := dueGo st l (a + (ms.length : Nat)) (b + if isNm (j, n, ms) = true then 1 else 0) (.val (tS j)) (.val (tS n)) (.val (.tuple (ms.map tS))) fun s hs => h s (List.mem_cons_of_mem _ hs)
    refine ⟨x', y', z', ?_⟩
    rw [List.map_cons, forGo]
    show (L__law_due_1 [st, .val (.int a), .val (.int b), .val (tS j), .val (tS n), .val (.tuple (ms.map tS))]).bind _ = _
    have e : L__law_due_1 [st, .val (.int a), .val (.int b), .val (tS j), .val (tS n), .val (.tuple (ms.map tS))] = some (.nx [st, .val (.int (a + (ms.length : Nat))), .val (.int (b + if isNm (j, n, ms) = true then 1 else 0)), .val (tS j), .val (tS n), .val (.tuple (ms.map tS))]) := by
      unfold L__law_due_1 isNm
      rw [lit_star, lit_A]
      rw [seq_nx (ρ' := [st, .val (.int (a + (ms.length : Nat))), .val (.int b), .val (tS j), .val (tS n), .val (.tuple (ms.map tS))]) (by simp -implicitDefEqProofs only [eK_r, eV_0, eV_s, eB_0v, eB_0b, eB_0p, eB_0o, eB_s, eP_0v, eP_0b, eP_s, eS_0, eS_s, getS_0, getS_s, aNil_r, aCons_r, eOp_r, eUn_r, eCall_r, eBm_r, eTup_r, eLst_r, eIf_r, eAnd_r, eOr_r, eNot_r, eIs_r, eChain_r, eSl_r, oNo_r, oSo_r, asI_r, bT_r, bV_r, bYes_r, asB_r, truth_b, truth_l, truth_t, truth_n, truth_i, bAnd_r, bOr_r, bNot_r, oAdd_i, oSub_i, oNeg_i, oLt_i, oLe_i, oGt_i, oGe_i, cInt_i, cInt_b, cLen_l, cLen_t, cList_l, cList_t, cMax2_i, cMin2_i, cAbs_i, isT_int_i, isT_bool_i, isT_bool_b, isT_int_b, isT_tuple_t, isT_list_l, oEq_i, oNe_i, oEq_b, oNe_b, oIsN_n, oNotN_n, oIsN_i, oNotN_i, oIsB_b, oNotB_b, sSeqn_r, sNext_r, sBrk_r, sCnt_r, sRetN_r, sExpr_r, sRet_r, sRetOwn_r, sIf_r, sSet_r, sOwn_r, sAsg_r, gV_r, gT_r, gsNil_r, gsCons_r, sFz_r, sAug_r, addI_r, subI_r, sSeq_r, sArgs_r, itemsOf_l, itemsOf_t, sMut_r, fApp_r, Option.bind_some, Option.map_some, List.length_cons, List.length_nil, Nat.zero_add, Nat.reduceAdd, Nat.reduceLT, Nat.reduceLeDiff, List.set_cons_zero, List.set_cons_succ, if_true, Bool.false_eq_true, if_false, Bool.not_true, Bool.not_false, decide_true, decide_false, reduceCtorEq, cl])]
      by_cases c1 : n = []
      · rw [decide_eq_true c1] at q1
        simp -implicitDefEqProofs only [eK_r, eV_0, eV_s, eB_0v, eB_0b, eB_0p, eB_0o, eB_s, eP_0v, eP_0b, eP_s, eS_0, eS_s, getS_0, getS_s, aNil_r, aCons_r, eOp_r, eUn_r, eCall_r, eBm_r, eTup_r, eLst_r, eIf_r, eAnd_r, eOr_r, eNot_r, eIs_r, eChain_r, eSl_r, oNo_r, oSo_r, asI_r, bT_r, bV_r, bYes_r, asB_r, truth_b, truth_l, truth_t, truth_n, truth_i, bAnd_r, bOr_r, bNot_r, oAdd_i, oSub_i, oNeg_i, oLt_i, oLe_i, oGt_i, oGe_i, cInt_i, cInt_b, cLen_l, cLen_t, cList_l, cList_t, cMax2_i, cMin2_i, cAbs_i, isT_int_i, isT_bool_i, isT_bool_b, isT_int_b, isT_tuple_t, isT_list_l, oEq_i, oNe_i, oEq_b, oNe_b, oIsN_n, oNotN_n, oIsN_i, oNotN_i, oIsB_b, oNotB_b, sSeqn_r, sNext_r, sBrk_r, sCnt_r, sRetN_r, sExpr_r, sRet_r, sRetOwn_r, sIf_r, sSet_r, sOwn_r, sAsg_r, gV_r, gT_r, gsNil_r, gsCons_r, sFz_r, sAug_r, addI_r, subI_r, sSeq_r, sArgs_r, itemsOf_l, itemsOf_t, sMut_r, fApp_r, Option.bind_some, Option.map_some, List.length_cons, List.length_nil, Nat.zero_add, Nat.reduceAdd, Nat.reduceLT, Nat.reduceLeDiff, List.set_cons_zero, List.set_cons_succ, if_true, Bool.false_eq_true, if_false, Bool.not_true, Bool.not_false, decide_true, decide_false, reduceCtorEq, q1, decide_eq_true c1, Bool.and_false, Int.add_zero]
      · rw [decide_eq_false c1] at q1
        by_cases c2 : n = [42]
        · rw [decide_eq_true c2] at q2
          simp -implicitDefEqProofs only [eK_r, eV_0, eV_s, eB_0v, eB_0b, eB_0p, eB_0o, eB_s, eP_0v, eP_0b, eP_s, eS_0, eS_s, getS_0, getS_s, aNil_r, aCons_r, eOp_r, eUn_r, eCall_r, eBm_r, eTup_r, eLst_r, eIf_r, eAnd_r, eOr_r, eNot_r, eIs_r, eChain_r, eSl_r, oNo_r, oSo_r, asI_r, bT_r, bV_r, bYes_r, asB_r, truth_b, truth_l, truth_t, truth_n, truth_i, bAnd_r, bOr_r, bNot_r, oAdd_i, oSub_i, oNeg_i, oLt_i, oLe_i, oGt_i, oGe_i, cInt_i, cInt_b, cLen_l, cLen_t, cList_l, cList_t, cMax2_i, cMin2_i, cAbs_i, isT_int_i, isT_bool_i, isT_bool_b, isT_int_b, isT_tuple_t, isT_list_l, oEq_i, oNe_i, oEq_b, oNe_b, oIsN_n, oNotN_n, oIsN_i, oNotN_i, oIsB_b, oNotB_b, sSeqn_r, sNext_r, sBrk_r, sCnt_r, sRetN_r, sExpr_r, sRet_r, sRetOwn_r, sIf_r, sSet_r, sOwn_r, sAsg_r, gV_r, gT_r, gsNil_r, gsCons_r, sFz_r, sAug_r, addI_r, subI_r, sSeq_r, sArgs_r, itemsOf_l, itemsOf_t, sMut_r, fApp_r, Option.bind_some, Option.map_some, List.length_cons, List.length_nil, Nat.zero_add, Nat.reduceAdd, Nat.reduceLT, Nat.reduceLeDiff, List.set_cons_zero, List.set_cons_succ, if_true, Bool.false_eq_true, if_false, Bool.not_true, Bool.not_false, decide_true, decide_false, reduceCtorEq, q1, q2, decide_eq_true c2, Bool.false_and, Int.add_zero]
        · rw [decide_eq_false c2] at q2
          simp -implicitDefEqProofs only [eK_r, eV_0, eV_s, eB_0v, eB_0b, eB_0p, eB_0o, eB_s, eP_0v, eP_0b, eP_s, eS_0, eS_s, getS_0, getS_s, aNil_r, aCons_r, eOp_r, eUn_r, eCall_r, eBm_r, eTup_r, eLst_r, eIf_r, eAnd_r, eOr_r, eNot_r, eIs_r, eChain_r, eSl_r, oNo_r, oSo_r, asI_r, bT_r, bV_r, bYes_r, asB_r, truth_b, truth_l, truth_t, truth_n, truth_i, bAnd_r, bOr_r, bNot_r, oAdd_i, oSub_i, oNeg_i, oLt_i, oLe_i, oGt_i, oGe_i, cInt_i, cInt_b, cLen_l, cLen_t, cList_l, cList_t, cMax2_i, cMin2_i, cAbs_i, isT_int_i, isT_bool_i, isT_bool_b, isT_int_b, isT_tuple_t, isT_list_l, oEq_i, oNe_i, oEq_b, oNe_b, oIsN_n, oNotN_n, oIsN_i, oNotN_i, oIsB_b, oNotB_b, sSeqn_r, sNext_r, sBrk_r, sCnt_r, sRetN_r, sExpr_r, sRet_r, sRetOwn_r, sIf_r, sSet_r, sOwn_r, sAsg_r, gV_r, gT_r, gsNil_r, gsCons_r, sFz_r, sAug_r, addI_r, subI_r, sSeq_r, sArgs_r, itemsOf_l, itemsOf_t, sMut_r, fApp_r, Option.bind_some, Option.map_some, List.length_cons, List.length_nil, Nat.zero_add, Nat.reduceAdd, Nat.reduceLT, Nat.reduceLeDiff, List.set_cons_zero, List.set_cons_succ, if_true, Bool.false_eq_true, if_false, Bool.not_true, Bool.not_false, decide_true, decide_false, reduceCtorEq, q1, q2, decide_eq_false c1, decide_eq_false c2, Bool.true_and]
    rw [e]
    show forGo _ _ _ _ = _
    rw [ih, many_cons, nams_cons, ← Int.add_assoc, ← Int.add_assoc]
theorem due_eq (l : List Stp) (h : ∀ s ∈ l, Sok1 s.2.1 s.2.2) : F__law_due [.list (l.map enc)] = some (.tuple [.int (many l), .int (nams l)]) := by
  obtain ⟨x, y, z, e⟩ := dueGo (.bor (.list (l.map enc))) l 0 0 .un .un .un h
  rw [Int.zero_add, Int.zero_add] at e
  have l2 : (0 + 1 + 1 : Nat) ≤ sizeLine := size_le (by decide)
  refine box_rt rfl ?_
  show B__law_due [.bor (.list (l.map enc)), .un, .un, .un, .un, .un] = _
  unfold B__law_due
  rw [seq_nx (ρ' := [.bor (.list (l.map enc)), .val (.int 0), .un, .un, .un, .un]) (by simp -implicitDefEqProofs only [eK_r, eV_0, eV_s, eB_0v, eB_0b, eB_0p, eB_0o, eB_s, eP_0v, eP_0b, eP_s, eS_0, eS_s, getS_0, getS_s, aNil_r, aCons_r, eOp_r, eUn_r, eCall_r, eBm_r, eTup_r, eLst_r, eIf_r, eAnd_r, eOr_r, eNot_r, eIs_r, eChain_r, eSl_r, oNo_r, oSo_r, asI_r, bT_r, bV_r, bYes_r, asB_r, truth_b, truth_l, truth_t, truth_n, truth_i, bAnd_r, bOr_r, bNot_r, oAdd_i, oSub_i, oNeg_i, oLt_i, oLe_i, oGt_i, oGe_i, cInt_i, cInt_b, cLen_l, cLen_t, cList_l, cList_t, cMax2_i, cMin2_i, cAbs_i, isT_int_i, isT_bool_i, isT_bool_b, isT_int_b, isT_tuple_t, isT_list_l, oEq_i, oNe_i, oEq_b, oNe_b, oIsN_n, oNotN_n, oIsN_i, oNotN_i, oIsB_b, oNotB_b, sSeqn_r, sNext_r, sBrk_r, sCnt_r, sRetN_r, sExpr_r, sRet_r, sRetOwn_r, sIf_r, sSet_r, sOwn_r, sAsg_r, gV_r, gT_r, gsNil_r, gsCons_r, sFz_r, sAug_r, addI_r, subI_r, sSeq_r, sArgs_r, itemsOf_l, itemsOf_t, sMut_r, fApp_r, Option.bind_some, Option.map_some, List.length_cons, List.length_nil, Nat.zero_add, Nat.reduceAdd, Nat.reduceLT, Nat.reduceLeDiff, List.set_cons_zero, List.set_cons_succ, if_true, Bool.false_eq_true, if_false, Bool.not_true, Bool.not_false, decide_true, decide_false, reduceCtorEq])]
  rw [seq_nx (ρ' := [.bor (.list (l.map enc)), .val (.int 0), .val (.int 0), .un, .un, .un]) (by simp -implicitDefEqProofs only [eK_r, eV_0, eV_s, eB_0v, eB_0b, eB_0p, eB_0o, eB_s, eP_0v, eP_0b, eP_s, eS_0, eS_s, getS_0, getS_s, aNil_r, aCons_r, eOp_r, eUn_r, eCall_r, eBm_r, eTup_r, eLst_r, eIf_r, eAnd_r, eOr_r, eNot_r, eIs_r, eChain_r, eSl_r, oNo_r, oSo_r, asI_r, bT_r, bV_r, bYes_r, asB_r, truth_b, truth_l, truth_t, truth_n, truth_i, bAnd_r, bOr_r, bNot_r, oAdd_i, oSub_i, oNeg_i, oLt_i, oLe_i, oGt_i, oGe_i, cInt_i, cInt_b, cLen_l, cLen_t, cList_l, cList_t, cMax2_i, cMin2_i, cAbs_i, isT_int_i, isT_bool_i, isT_bool_b, isT_int_b, isT_tuple_t, isT_list_l, oEq_i, oNe_i, oEq_b, oNe_b, oIsN_n, oNotN_n, oIsN_i, oNotN_i, oIsB_b, oNotB_b, sSeqn_r, sNext_r, sBrk_r, sCnt_r, sRetN_r, sExpr_r, sRet_r, sRetOwn_r, sIf_r, sSet_r, sOwn_r, sAsg_r, gV_r, gT_r, gsNil_r, gsCons_r, sFz_r, sAug_r, addI_r, subI_r, sSeq_r, sArgs_r, itemsOf_l, itemsOf_t, sMut_r, fApp_r, Option.bind_some, Option.map_some, List.length_cons, List.length_nil, Nat.zero_add, Nat.reduceAdd, Nat.reduceLT, Nat.reduceLeDiff, List.set_cons_zero, List.set_cons_succ, if_true, Bool.false_eq_true, if_false, Bool.not_true, Bool.not_false, decide_true, decide_false, reduceCtorEq])]
  rw [seq_nx (ρ' := [.bor (.list (l.map enc)), .val (.int (many l)), .val (.int (nams l)), x, y, z]) (by
    rw [sFor_r]
    simp -implicitDefEqProofs only [eK_r, eV_0, eV_s, eB_0v, eB_0b, eB_0p, eB_0o, eB_s, eP_0v, eP_0b, eP_s, eS_0, eS_s, getS_0, getS_s, aNil_r, aCons_r, eOp_r, eUn_r, eCall_r, eBm_r, eTup_r, eLst_r, eIf_r, eAnd_r, eOr_r, eNot_r, eIs_r, eChain_r, eSl_r, oNo_r, oSo_r, asI_r, bT_r, bV_r, bYes_r, asB_r, truth_b, truth_l, truth_t, truth_n, truth_i, bAnd_r, bOr_r, bNot_r, oAdd_i, oSub_i, oNeg_i, oLt_i, oLe_i, oGt_i, oGe_i, cInt_i, cInt_b, cLen_l, cLen_t, cList_l, cList_t, cMax2_i, cMin2_i, cAbs_i, isT_int_i, isT_bool_i, isT_bool_b, isT_int_b, isT_tuple_t, isT_list_l, oEq_i, oNe_i, oEq_b, oNe_b, oIsN_n, oNotN_n, oIsN_i, oNotN_i, oIsB_b, oNotB_b, sSeqn_r, sNext_r, sBrk_r, sCnt_r, sRetN_r, sExpr_r, sRet_r, sRetOwn_r, sIf_r, sSet_r, sOwn_r, sAsg_r, gV_r, gT_r, gsNil_r, gsCons_r, sFz_r, sAug_r, addI_r, subI_r, sSeq_r, sArgs_r, itemsOf_l, itemsOf_t, sMut_r, fApp_r, Option.bind_some, Option.map_some, List.length_cons, List.length_nil, Nat.zero_add, Nat.reduceAdd, Nat.reduceLT, Nat.reduceLeDiff, List.set_cons_zero, List.set_cons_succ, if_true, Bool.false_eq_true, if_false, Bool.not_true, Bool.not_false, decide_true, decide_false, reduceCtorEq, e])]
  simp -implicitDefEqProofs only [eK_r, eV_0, eV_s, eB_0v, eB_0b, eB_0p, eB_0o, eB_s, eP_0v, eP_0b, eP_s, eS_0, eS_s, getS_0, getS_s, aNil_r, aCons_r, eOp_r, eUn_r, eCall_r, eBm_r, eTup_r, eLst_r, eIf_r, eAnd_r, eOr_r, eNot_r, eIs_r, eChain_r, eSl_r, oNo_r, oSo_r, asI_r, bT_r, bV_r, bYes_r, asB_r, truth_b, truth_l, truth_t, truth_n, truth_i, bAnd_r, bOr_r, bNot_r, oAdd_i, oSub_i, oNeg_i, oLt_i, oLe_i, oGt_i, oGe_i, cInt_i, cInt_b, cLen_l, cLen_t, cList_l, cList_t, cMax2_i, cMin2_i, cAbs_i, isT_int_i, isT_bool_i, isT_bool_b, isT_int_b, isT_tuple_t, isT_list_l, oEq_i, oNe_i, oEq_b, oNe_b, oIsN_n, oNotN_n, oIsN_i, oNotN_i, oIsB_b, oNotB_b, sSeqn_r, sNext_r, sBrk_r, sCnt_r, sRetN_r, sExpr_r, sRet_r, sRetOwn_r, sIf_r, sSet_r, sOwn_r, sAsg_r, gV_r, gT_r, gsNil_r, gsCons_r, sFz_r, sAug_r, addI_r, subI_r, sSeq_r, sArgs_r, itemsOf_l, itemsOf_t, sMut_r, fApp_r, Option.bind_some, Option.map_some, List.length_cons, List.length_nil, Nat.zero_add, Nat.reduceAdd, Nat.reduceLT, Nat.reduceLeDiff, List.set_cons_zero, List.set_cons_succ, if_true, Bool.false_eq_true, if_false, Bool.not_true, Bool.not_false, decide_true, decide_false, reduceCtorEq, l2]
/-! ### the law's words and steps -/
theorem nxE {q : MQ} {f : ME} {ρ : Rho} {w : Wd} {h0 h : Nat} (hne : h0 ≠ h) (l0 : h0 < w.length) (l1 : h < w.length) (cs : List Int) (a b : Int) (ha : 0 ≤ a) (m : Int) (hm : 0 < m) (hm2 : m < 18446744073709551616) (hq : ∀ w, q ρ w = some (.r h, w)) (hf : ∀ w, f ρ w = some (.int m, w)) : ∃ (d : Int) (cs' : List Int) (a' b' : Int), mCall F__law_next (maQ q (maD f maNil)) ρ (StW w h0 h cs a b) = some (.int d, StW w h0 h cs' a' b') ∧ 0 ≤ d ∧ d < m ∧ 0 ≤ a' := by
  obtain ⟨d, cs', a', b', e, h1, h2, h3⟩ := nextG hne l0 l1 cs a b ha m hm hm2
  refine ⟨d, cs', a', b', mCall_eq (args := [.r h, .d (.int m)]) (w1 := StW w h0 h cs a b) ?_ e, h1, h2, h3⟩
  rw [maQ_r, hq, Option.bind_some, maD_r, hf]
  rfl
def W0 : Wd := [.tab "is_word", .lst [], .lst []]
abbrev SW (cs : List Int) (a b : Int) : Wd := StW W0 1 2 cs a b
theorem SW_tab (cs : List Int) (a b : Int) : hasTab "is_word" (SW cs a b) = true := by
  have e : SW cs a b = [.tab "is_word", .lst (cs.map fun i => .d (.int i)), .lst [.r 1, .d (.int a), .d (.int b)]] := rfl
  rw [e]; simp [hasTab, isTab]
theorem nx {q : MQ} {f : ME} {ρ : Rho} (cs : List Int) (a b : Int) (ha : 0 ≤ a) (m : Int) (hm : 0 < m) (hm2 : m < 18446744073709551616) (hq : ∀ w, q ρ w = some (.r 2, w)) (hf : ∀ w, f ρ w = some (.int m, w)) : ∃ (d : Int) (cs' : List Int) (a' b' : Int), mCall F__law_next (maQ q (maD f maNil)) ρ (SW cs a b) = some (.int d, SW cs' a' b') ∧ 0 ≤ d ∧ d < m ∧ 0 ≤ a' := nxE (w := W0) (h0 := 1) (h := 2) (by decide) (by decide) (by decide) cs a b ha m hm hm2 hq hf
def AZ : List Nat := [97, 98, 99, 100, 101, 102, 103, 104, 105, 106, 107, 108, 109, 110, 111, 112, 113, 114, 115, 116, 117, 118, 119, 120, 121, 122]
theorem lit_az : PyData.str (Str.ofString "abcdefghijklmnopqrstuvwxyz") = tS AZ := lit _ _ (by decide +kernel)
theorem az_ok : ∀ c ∈ AZ, 97 ≤ c ∧ c ≤ 122 := by decide +kernel
theorem signsGo (k1 : Slot) : ∀ (ds : List PyData) (k2 : Slot) (cs : List Int) (a b : Int), 0 ≤ a → ∃ (l : List Nat) (cs' : List Int) (a' b' : Int), mLcGo (gV 2) (mLB bYes) (mOp oIx (mL (eK (tS AZ))) (mCall F__law_next (maQ (mVar 0) (maD (mL (eK (.int 26))) maNil)))) [.st 2, k1, .un] ds (SW cs a b) = some (l.map fun c => tS [c], SW cs' a' b') ∧ l.length = ds.length ∧ (∀ c ∈ l, 97 ≤ c ∧ c ≤ 122) ∧ 0 ≤ a'
  | [], k2, cs, a, b, ha => ⟨[], cs, a, b, rfl, rfl, fun c hc => (by cases hc), ha⟩
  | d :: ds, k2, cs, a, b, ha => by
    obtain ⟨i, cs1, a1, b1, e1, h1, h2, ha1⟩ := nx (q := mVar 0) (f := mL (eK (.int 26))) (ρ := [.st 2, k1, .val d]) cs a b ha 26 (by decide) (by decide) (fun _ => rfl) (fun _ => rfl)
    obtain ⟨l, cs2, a2, b2, e2, h3, h4, ha2⟩ := signsGo k1 ds k2 cs1 a1 b1 ha1
    obtain ⟨c, hc, ec⟩ := atI_ex (l := AZ) h1 (by show i < ((26 : Nat) : Int); omega)
    have ix := tIx AZ i c (by decide) ec
    refine ⟨c :: l, cs2, a2, b2, ?_, by rw [List.length_cons, List.length_cons, h3], fun x hx => by
      rcases List.mem_cons.mp hx with rfl | hx
      · exact az_ok _ hc
      · exact h4 x hx, ha2⟩
    unfold mLcGo
    rw [show gV 2 d [.st 2, k1, .un] = some [.st 2, k1, .val d] from rfl, Option.bind_some]
    rw [show mLB bYes [.st 2, k1, .val d] (SW cs a b) = some (true, SW cs a b) from rfl, Option.bind_some, if_pos rfl]
    rw [show mOp oIx (mL (eK (tS AZ))) (mCall F__law_next (maQ (mVar 0) (maD (mL (eK (.int 26))) maNil))) [.st 2, k1, .val d] (SW cs a b) = some (tS [c], SW cs1 a1 b1) by simp -implicitDefEqProofs only [eK_r, eV_0, eV_s, eB_0v, eB_0b, eB_0p, eB_0o, eB_s, eP_0v, eP_0b, eP_s, eS_0, eS_s, getS_0, getS_s, aNil_r, aCons_r, eOp_r, eUn_r, eCall_r, eBm_r, eTup_r, eLst_r, eIf_r, eAnd_r, eOr_r, eNot_r, eIs_r, eChain_r, eSl_r, oNo_r, oSo_r, asI_r, bT_r, bV_r, bYes_r, asB_r, truth_b, truth_l, truth_t, truth_n, truth_i, bAnd_r, bOr_r, bNot_r, oAdd_i, oSub_i, oNeg_i, oLt_i, oLe_i, oGt_i, oGe_i, cInt_i, cInt_b, cLen_l, cLen_t, cList_l, cList_t, cMax2_i, cMin2_i, cAbs_i, isT_int_i, isT_bool_i, isT_bool_b, isT_int_b, isT_tuple_t, isT_list_l, oEq_i, oNe_i, oEq_b, oNe_b, oIsN_n, oNotN_n, oIsN_i, oNotN_i, oIsB_b, oNotB_b, sSeqn_r, sNext_r, sBrk_r, sCnt_r, sRetN_r, sExpr_r, sRet_r, sRetOwn_r, sIf_r, sSet_r, sOwn_r, sAsg_r, gV_r, gT_r, gsNil_r, gsCons_r, sFz_r, sAug_r, addI_r, subI_r, sSeq_r, sArgs_r, itemsOf_l, itemsOf_t, sMut_r, fApp_r, Option.bind_some, Option.map_some, List.length_cons, List.length_nil, Nat.zero_add, Nat.reduceAdd, Nat.reduceLT, Nat.reduceLeDiff, List.set_cons_zero, List.set_cons_succ, if_true, Bool.false_eq_true, if_false, Bool.not_true, Bool.not_false, decide_true, decide_false, reduceCtorEq, unD_nil, unD_d, mL_r, mLB_r, mOp_r, mUn_r, mT_r, mV_r, mNot_r, mAndB_r, mOrB_r, mIte_r, maNil_r, maD_r, mF_r, mFK_r, mQ_r, mQR_r, mRv_0, mRv_s, mAndV_r, mOrV_r, mNotV_r, mNext_r, mIf_r, mSet_r, mOwn_r, mAny_r, mAsg_r, mRet_r, List.cons_append, List.nil_append, List.append_nil, e1, ix], Option.bind_some, e2]
    rfl
theorem join_signs : ∀ (l : List Nat), TL.joinL [] (l.map fun c => [c]) = l
  | [] => rfl
  | [c] => rfl
  | c :: d :: l => by
    show [c] ++ ([] ++ TL.joinL [] ((d :: l).map fun c => [c])) = _
    rw [join_signs (d :: l)]; rfl
theorem join_eq1 (l : List Nat) (hz : l.length ≤ 100) : oJoin (tS []) [.list (l.map fun c => tS [c])] = some (tS l) := by
  have e := oJoin_l (x := (⟨([] : List Nat).toArray⟩ : Str)) (ys := l.map fun c => (⟨[c].toArray⟩ : Str)) (by
    have h1 : ((l.map fun c => (⟨[c].toArray⟩ : Str)).map (·.length)).sum = l.length := by
      rw [List.map_map]
      show (l.map fun _ => 1).sum = _
      rw [List.map_const']; simp
    have h2 : (⟨([] : List Nat).toArray⟩ : Str).length = 0 := rfl
    rw [h1, h2]; omega)
  rw [List.map_map] at e
  refine (show oJoin (tS []) [.list (l.map fun c => tS [c])] = _ from e).trans ?_
  unfold tS
  congr 2
  apply TL.ext_tl
  rw [TL.join_eq, TL.tl_join, List.map_map]
  exact join_signs l
theorem word_ex (cs : List Int) (a b : Int) (ha : 0 ≤ a) : ∃ (l : List Nat) (cs' : List Int) (a' b' : Int), F__law_word [.r 2] (SW cs a b) = some (.d (tS l), SW cs' a' b') ∧ Wd1 l ∧ 0 ≤ a' := by
  suffices h : ∃ (l : List Nat) (cs' : List Int) (a' b' : Int), B__law_word [.st 2, .un, .un] (SW cs a b) = some (.rt (.d (tS l)), SW cs' a' b') ∧ Wd1 l ∧ 0 ≤ a' by
    obtain ⟨v, cs', a', b', e, h2, h3⟩ := h
    exact ⟨v, cs', a', b', boxW_rt rfl e, h2, h3⟩
  unfold B__law_word
  rw [lit_az, lit_A]
  obtain ⟨d1, cs1, a1, b1, e1, h1, h2, ha1⟩ := nx (q := mVar 0) (f := mL (eK (.int 12))) (ρ := [.st 2, .un, .un]) cs a b ha 12 (by decide) (by decide) (fun _ => rfl) (fun _ => rfl)
  rw [mseq_nx (mSet_eq (d := .int (1 + d1)) (w1 := SW cs1 a1 b1) (by simp -implicitDefEqProofs only [eK_r, eV_0, eV_s, eB_0v, eB_0b, eB_0p, eB_0o, eB_s, eP_0v, eP_0b, eP_s, eS_0, eS_s, getS_0, getS_s, aNil_r, aCons_r, eOp_r, eUn_r, eCall_r, eBm_r, eTup_r, eLst_r, eIf_r, eAnd_r, eOr_r, eNot_r, eIs_r, eChain_r, eSl_r, oNo_r, oSo_r, asI_r, bT_r, bV_r, bYes_r, asB_r, truth_b, truth_l, truth_t, truth_n, truth_i, bAnd_r, bOr_r, bNot_r, oAdd_i, oSub_i, oNeg_i, oLt_i, oLe_i, oGt_i, oGe_i, cInt_i, cInt_b, cLen_l, cLen_t, cList_l, cList_t, cMax2_i, cMin2_i, cAbs_i, isT_int_i, isT_bool_i, isT_bool_b, isT_int_b, isT_tuple_t, isT_list_l, oEq_i, oNe_i, oEq_b, oNe_b, oIsN_n, oNotN_n, oIsN_i, oNotN_i, oIsB_b, oNotB_b, sSeqn_r, sNext_r, sBrk_r, sCnt_r, sRetN_r, sExpr_r, sRet_r, sRetOwn_r, sIf_r, sSet_r, sOwn_r, sAsg_r, gV_r, gT_r, gsNil_r, gsCons_r, sFz_r, sAug_r, addI_r, subI_r, sSeq_r, sArgs_r, itemsOf_l, itemsOf_t, sMut_r, fApp_r, Option.bind_some, Option.map_some, List.length_cons, List.length_nil, Nat.zero_add, Nat.reduceAdd, Nat.reduceLT, Nat.reduceLeDiff, List.set_cons_zero, List.set_cons_succ, if_true, Bool.false_eq_true, if_false, Bool.not_true, Bool.not_false, decide_true, decide_false, reduceCtorEq, unD_nil, unD_d, mL_r, mLB_r, mOp_r, mUn_r, mT_r, mV_r, mNot_r, mAndB_r, mOrB_r, mIte_r, maNil_r, maD_r, mF_r, mFK_r, mQ_r, mQR_r, mRv_0, mRv_s, mAndV_r, mOrV_r, mNotV_r, mNext_r, mIf_r, mSet_r, mOwn_r, mAny_r, mAsg_r, mRet_r, List.cons_append, List.nil_append, List.append_nil, e1]) (by simp))]
  show ∃ l cs' a' b', mSeq _ _ [.st 2, .val (.int (1 + d1)), .un] _ = _ ∧ _
  obtain ⟨d2, cs2, a2, b2, e2, h3, h4, ha2⟩ := nx (q := mVar 0) (f := mL (eK (.int 2))) (ρ := [.st 2, .val (.int (1 + d1)), .un]) cs1 a1 b1 ha1 2 (by decide) (by decide) (fun _ => rfl) (fun _ => rfl)
  obtain ⟨sz, cs3, a3, b3, hs1, hs2, ha3, e3⟩ : ∃ (sz : Int) (cs3 : List Int) (a3 b3 : Int), 1 ≤ sz ∧ sz ≤ 12 ∧ 0 ≤ a3 ∧ (mIf (mT (mOp oEq (mCall F__law_next (maQ (mVar 0) (maD (mL (eK (.int 2))) maNil))) (mL (eK (.int 0)))))
    (mSet 1 (mOp oAdd (mL (eK (.int 1))) (mCall F__law_next (maQ (mVar 0) (maD (mL (eK (.int 3))) maNil)))))
    mNext) [.st 2, .val (.int (1 + d1)), .un] (SW cs1 a1 b1) = some (.nx [.st 2, .val (.int sz), .un], SW cs3 a3 b3) := by
    by_cases c : d2 = 0
    · obtain ⟨d3, cs3, a3, b3, e3, h5, h6, ha3⟩ := nx (q := mVar 0) (f := mL (eK (.int 3))) (ρ := [.st 2, .val (.int (1 + d1)), .un]) cs2 a2 b2 ha2 3 (by decide) (by decide) (fun _ => rfl) (fun _ => rfl)
      refine ⟨1 + d3, cs3, a3, b3, by omega, by omega, ha3, ?_⟩
      rw [mIf_t (w1 := SW cs2 a2 b2) (by simp -implicitDefEqProofs only [eK_r, eV_0, eV_s, eB_0v, eB_0b, eB_0p, eB_0o, eB_s, eP_0v, eP_0b, eP_s, eS_0, eS_s, getS_0, getS_s, aNil_r, aCons_r, eOp_r, eUn_r, eCall_r, eBm_r, eTup_r, eLst_r, eIf_r, eAnd_r, eOr_r, eNot_r, eIs_r, eChain_r, eSl_r, oNo_r, oSo_r, asI_r, bT_r, bV_r, bYes_r, asB_r, truth_b, truth_l, truth_t, truth_n, truth_i, bAnd_r, bOr_r, bNot_r, oAdd_i, oSub_i, oNeg_i, oLt_i, oLe_i, oGt_i, oGe_i, cInt_i, cInt_b, cLen_l, cLen_t, cList_l, cList_t, cMax2_i, cMin2_i, cAbs_i, isT_int_i, isT_bool_i, isT_bool_b, isT_int_b, isT_tuple_t, isT_list_l, oEq_i, oNe_i, oEq_b, oNe_b, oIsN_n, oNotN_n, oIsN_i, oNotN_i, oIsB_b, oNotB_b, sSeqn_r, sNext_r, sBrk_r, sCnt_r, sRetN_r, sExpr_r, sRet_r, sRetOwn_r, sIf_r, sSet_r, sOwn_r, sAsg_r, gV_r, gT_r, gsNil_r, gsCons_r, sFz_r, sAug_r, addI_r, subI_r, sSeq_r, sArgs_r, itemsOf_l, itemsOf_t, sMut_r, fApp_r, Option.bind_some, Option.map_some, List.length_cons, List.length_nil, Nat.zero_add, Nat.reduceAdd, Nat.reduceLT, Nat.reduceLeDiff, List.set_cons_zero, List.set_cons_succ, if_true, Bool.false_eq_true, if_false, Bool.not_true, Bool.not_false, decide_true, decide_false, reduceCtorEq, unD_nil, unD_d, mL_r, mLB_r, mOp_r, mUn_r, mT_r, mV_r, mNot_r, mAndB_r, mOrB_r, mIte_r, maNil_r, maD_r, mF_r, mFK_r, mQ_r, mQR_r, mRv_0, mRv_s, mAndV_r, mOrV_r, mNotV_r, mNext_r, mIf_r, mSet_r, mOwn_r, mAny_r, mAsg_r, mRet_r, List.cons_append, List.nil_append, List.append_nil, e2, c])]
      simp -implicitDefEqProofs only [eK_r, eV_0, eV_s, eB_0v, eB_0b, eB_0p, eB_0o, eB_s, eP_0v, eP_0b, eP_s, eS_0, eS_s, getS_0, getS_s, aNil_r, aCons_r, eOp_r, eUn_r, eCall_r, eBm_r, eTup_r, eLst_r, eIf_r, eAnd_r, eOr_r, eNot_r, eIs_r, eChain_r, eSl_r, oNo_r, oSo_r, asI_r, bT_r, bV_r, bYes_r, asB_r, truth_b, truth_l, truth_t, truth_n, truth_i, bAnd_r, bOr_r, bNot_r, oAdd_i, oSub_i, oNeg_i, oLt_i, oLe_i, oGt_i, oGe_i, cInt_i, cInt_b, cLen_l, cLen_t, cList_l, cList_t, cMax2_i, cMin2_i, cAbs_i, isT_int_i, isT_bool_i, isT_bool_b, isT_int_b, isT_tuple_t, isT_list_l, oEq_i, oNe_i, oEq_b, oNe_b, oIsN_n, oNotN_n, oIsN_i, oNotN_i, oIsB_b, oNotB_b, sSeqn_r, sNext_r, sBrk_r, sCnt_r, sRetN_r, sExpr_r, sRet_r, sRetOwn_r, sIf_r, sSet_r, sOwn_r, sAsg_r, gV_r, gT_r, gsNil_r, gsCons_r, sFz_r, sAug_r, addI_r, subI_r, sSeq_r, sArgs_r, itemsOf_l, itemsOf_t, sMut_r, fApp_r, Option.bind_some, Option.map_some, List.length_cons, List.length_nil, Nat.zero_add, Nat.reduceAdd, Nat.reduceLT, Nat.reduceLeDiff, List.set_cons_zero, List.set_cons_succ, if_true, Bool.false_eq_true, if_false, Bool.not_true, Bool.not_false, decide_true, decide_false, reduceCtorEq, unD_nil, unD_d, mL_r, mLB_r, mOp_r, mUn_r, mT_r, mV_r, mNot_r, mAndB_r, mOrB_r, mIte_r, maNil_r, maD_r, mF_r, mFK_r, mQ_r, mQR_r, mRv_0, mRv_s, mAndV_r, mOrV_r, mNotV_r, mNext_r, mIf_r, mSet_r, mOwn_r, mAny_r, mAsg_r, mRet_r, List.cons_append, List.nil_append, List.append_nil, e3]
    · refine ⟨1 + d1, cs2, a2, b2, by omega, by omega, ha2, ?_⟩
      rw [mIf_f (w1 := SW cs2 a2 b2) (by simp -implicitDefEqProofs only [eK_r, eV_0, eV_s, eB_0v, eB_0b, eB_0p, eB_0o, eB_s, eP_0v, eP_0b, eP_s, eS_0, eS_s, getS_0, getS_s, aNil_r, aCons_r, eOp_r, eUn_r, eCall_r, eBm_r, eTup_r, eLst_r, eIf_r, eAnd_r, eOr_r, eNot_r, eIs_r, eChain_r, eSl_r, oNo_r, oSo_r, asI_r, bT_r, bV_r, bYes_r, asB_r, truth_b, truth_l, truth_t, truth_n, truth_i, bAnd_r, bOr_r, bNot_r, oAdd_i, oSub_i, oNeg_i, oLt_i, oLe_i, oGt_i, oGe_i, cInt_i, cInt_b, cLen_l, cLen_t, cList_l, cList_t, cMax2_i, cMin2_i, cAbs_i, isT_int_i, isT_bool_i, isT_bool_b, isT_int_b, isT_tuple_t, isT_list_l, oEq_i, oNe_i, oEq_b, oNe_b, oIsN_n, oNotN_n, oIsN_i, oNotN_i, oIsB_b, oNotB_b, sSeqn_r, sNext_r, sBrk_r, sCnt_r, sRetN_r, sExpr_r, sRet_r, sRetOwn_r, sIf_r, sSet_r, sOwn_r, sAsg_r, gV_r, gT_r, gsNil_r, gsCons_r, sFz_r, sAug_r, addI_r, subI_r, sSeq_r, sArgs_r, itemsOf_l, itemsOf_t, sMut_r, fApp_r, Option.bind_some, Option.map_some, List.length_cons, List.length_nil, Nat.zero_add, Nat.reduceAdd, Nat.reduceLT, Nat.reduceLeDiff, List.set_cons_zero, List.set_cons_succ, if_true, Bool.false_eq_true, if_false, Bool.not_true, Bool.not_false, decide_true, decide_false, reduceCtorEq, unD_nil, unD_d, mL_r, mLB_r, mOp_r, mUn_r, mT_r, mV_r, mNot_r, mAndB_r, mOrB_r, mIte_r, maNil_r, maD_r, mF_r, mFK_r, mQ_r, mQR_r, mRv_0, mRv_s, mAndV_r, mOrV_r, mNotV_r, mNext_r, mIf_r, mSet_r, mOwn_r, mAny_r, mAsg_r, mRet_r, List.cons_append, List.nil_append, List.append_nil, e2, c])]
      rfl
  rw [mseq_nx e3]
  have hr : rng1 [.int sz] = some (rangeD 0 sz.toNat) := rng1_r (by omega) (by omega)
  obtain ⟨l, cs4, a4, b4, e4, hl, hc, ha4⟩ := signsGo (.val (.int sz)) (rangeD 0 sz.toNat) .un cs3 a3 b3 ha3
  have hl : l.length = sz.toNat := by rw [hl, rangeD_len]
  have jn := join_eq1 l (by omega)
  refine ⟨l, cs4, a4, b4, ?_, ⟨by omega, by omega, hc⟩, ha4⟩
  have lc : mLc (mArgsI rng1 (maD (mL (eV 1)) maNil)) (gV 2) (mLB bYes) (mOp oIx (mL (eK (tS AZ))) (mCall F__law_next (maQ (mVar 0) (maD (mL (eK (.int 26))) maNil)))) [2] [.st 2, .val (.int sz), .un] (SW cs3 a3 b3) = some (.list (l.map fun c => tS [c]), SW cs4 a4 b4) := by
    unfold mLc
    rw [mArgsI_eq (l := [.d (.int sz)]) (w1 := SW cs3 a3 b3) (by simp -implicitDefEqProofs only [eK_r, eV_0, eV_s, eB_0v, eB_0b, eB_0p, eB_0o, eB_s, eP_0v, eP_0b, eP_s, eS_0, eS_s, getS_0, getS_s, aNil_r, aCons_r, eOp_r, eUn_r, eCall_r, eBm_r, eTup_r, eLst_r, eIf_r, eAnd_r, eOr_r, eNot_r, eIs_r, eChain_r, eSl_r, oNo_r, oSo_r, asI_r, bT_r, bV_r, bYes_r, asB_r, truth_b, truth_l, truth_t, truth_n, truth_i, bAnd_r, bOr_r, bNot_r, oAdd_i, oSub_i, oNeg_i, oLt_i, oLe_i, oGt_i, oGe_i, cInt_i, cInt_b, cLen_l, cLen_t, cList_l, cList_t, cMax2_i, cMin2_i, cAbs_i, isT_int_i, isT_bool_i, isT_bool_b, isT_int_b, isT_tuple_t, isT_list_l, oEq_i, oNe_i, oEq_b, oNe_b, oIsN_n, oNotN_n, oIsN_i, oNotN_i, oIsB_b, oNotB_b, sSeqn_r, sNext_r, sBrk_r, sCnt_r, sRetN_r, sExpr_r, sRet_r, sRetOwn_r, sIf_r, sSet_r, sOwn_r, sAsg_r, gV_r, gT_r, gsNil_r, gsCons_r, sFz_r, sAug_r, addI_r, subI_r, sSeq_r, sArgs_r, itemsOf_l, itemsOf_t, sMut_r, fApp_r, Option.bind_some, Option.map_some, List.length_cons, List.length_nil, Nat.zero_add, Nat.reduceAdd, Nat.reduceLT, Nat.reduceLeDiff, List.set_cons_zero, List.set_cons_succ, if_true, Bool.false_eq_true, if_false, Bool.not_true, Bool.not_false, decide_true, decide_false, reduceCtorEq, unD_nil, unD_d, mL_r, mLB_r, mOp_r, mUn_r, mT_r, mV_r, mNot_r, mAndB_r, mOrB_r, mIte_r, maNil_r, maD_r, mF_r, mFK_r, mQ_r, mQR_r, mRv_0, mRv_s, mAndV_r, mOrV_r, mNotV_r, mNext_r, mIf_r, mSet_r, mOwn_r, mAny_r, mAsg_r, mRet_r, List.cons_append, List.nil_append, List.append_nil]) hr, Option.bind_some]
    show (mLcGo _ _ _ [.st 2, .val (.int sz), .un] _ _).bind _ = _
    rw [e4, Option.bind_some, if_pos (size_le (by rw [List.length_map]; omega))]
  simp -implicitDefEqProofs only [eK_r, eV_0, eV_s, eB_0v, eB_0b, eB_0p, eB_0o, eB_s, eP_0v, eP_0b, eP_s, eS_0, eS_s, getS_0, getS_s, aNil_r, aCons_r, eOp_r, eUn_r, eCall_r, eBm_r, eTup_r, eLst_r, eIf_r, eAnd_r, eOr_r, eNot_r, eIs_r, eChain_r, eSl_r, oNo_r, oSo_r, asI_r, bT_r, bV_r, bYes_r, asB_r, truth_b, truth_l, truth_t, truth_n, truth_i, bAnd_r, bOr_r, bNot_r, oAdd_i, oSub_i, oNeg_i, oLt_i, oLe_i, oGt_i, oGe_i, cInt_i, cInt_b, cLen_l, cLen_t, cList_l, cList_t, cMax2_i, cMin2_i, cAbs_i, isT_int_i, isT_bool_i, isT_bool_b, isT_int_b, isT_tuple_t, isT_list_l, oEq_i, oNe_i, oEq_b, oNe_b, oIsN_n, oNotN_n, oIsN_i, oNotN_i, oIsB_b, oNotB_b, sSeqn_r, sNext_r, sBrk_r, sCnt_r, sRetN_r, sExpr_r, sRet_r, sRetOwn_r, sIf_r, sSet_r, sOwn_r, sAsg_r, gV_r, gT_r, gsNil_r, gsCons_r, sFz_r, sAug_r, addI_r, subI_r, sSeq_r, sArgs_r, itemsOf_l, itemsOf_t, sMut_r, fApp_r, Option.bind_some, Option.map_some, List.length_cons, List.length_nil, Nat.zero_add, Nat.reduceAdd, Nat.reduceLT, Nat.reduceLeDiff, List.set_cons_zero, List.set_cons_succ, if_true, Bool.false_eq_true, if_false, Bool.not_true, Bool.not_false, decide_true, decide_false, reduceCtorEq, unD_nil, unD_d, mL_r, mLB_r, mOp_r, mUn_r, mT_r, mV_r, mNot_r, mAndB_r, mOrB_r, mIte_r, maNil_r, maD_r, mF_r, mFK_r, mQ_r, mQR_r, mRv_0, mRv_s, mAndV_r, mOrV_r, mNotV_r, mNext_r, mIf_r, mSet_r, mOwn_r, mAny_r, mAsg_r, mRet_r, List.cons_append, List.nil_append, List.append_nil, mBm_r, lc, jn]
/-! ### the law's steps -/
theorem oNotIn_ss {z : Str} {l : List Str} (hz : PyData.strOk z = true) (h : ∀ x ∈ l, PyData.strOk x = true) : oNotIn (.str z) (.list (l.map .str)) = some (.bool (!decide (z ∈ l))) := by
  unfold oNotIn
  simp only []
  rw [if_pos ⟨clean_shaped (by decide) (clean_s hz), clean_shaped (by decide) (clean_ss h)⟩, any_ss]
theorem tNotInL {m : List Nat} {ms : List (List Nat)} (hm : Asc m) (h : ∀ x ∈ ms, Asc x) : oNotIn (tS m) (.list (ms.map tS)) = some (.bool (!decide (m ∈ ms))) := by
  have e := oNotIn_ss (z := (⟨m.toArray⟩ : Str)) (l := ms.map fun l => (⟨l.toArray⟩ : Str)) (tOk hm) (fun x hx => by
    obtain ⟨l, hl, rfl⟩ := List.mem_map.mp hx
    exact tOk (h l hl))
  rw [← tS_map] at e
  refine e.trans ?_
  have : ((⟨m.toArray⟩ : Str) ∈ ms.map fun l => (⟨l.toArray⟩ : Str)) ↔ m ∈ ms := ⟨fun z => by
    obtain ⟨l, hl, e⟩ := List.mem_map.mp z
    rw [← mk_inj e]; exact hl, fun z => List.mem_map.mpr ⟨m, z, rfl⟩⟩
  rw [decide_eq_decide.mpr this]
theorem pickT (l : List (List Nat)) {i : Int} (h0 : 0 ≤ i) (h1 : i < l.length) : ∃ x ∈ l, oIx (.list (l.map tS)) (.int i) = some (tS x) := by
  obtain ⟨v, hv, e⟩ := atI_ex (l := l.map tS) h0 (by rw [List.length_map]; exact h1)
  obtain ⟨x, hx, rfl⟩ := List.mem_map.mp hv
  exact ⟨x, hx, e⟩
structure Sg (S : List (List Nat)) (x0 : List Nat) : Prop where
  w : ∀ m ∈ S, Wd1 m
  s : ∀ m ∈ S, m = x0 ∨ m.length ≤ 2
  l : S.length = 8
  x : x0.length ≤ 12
theorem dlen0 {x0 : List Nat} : ∀ F : List (List Nat), (∀ m ∈ F, m ≠ x0) → (∀ m ∈ F, m = x0 ∨ m.length ≤ 2) → (dots F).length ≤ 3 * F.length
  | [], _, _ => by simp [dots]
  | m :: F, h1, h2 => by
    have ih := dlen0 F (fun z hz => h1 z (List.mem_cons_of_mem _ hz)) fun z hz => h2 z (List.mem_cons_of_mem _ hz)
    have := (h2 m List.mem_cons_self).resolve_left (h1 m List.mem_cons_self)
    rw [dots_cons]
    simp only [List.length_append, List.length_cons]
    omega
theorem dlen {x0 : List Nat} (hx : x0.length ≤ 12) : ∀ F : List (List Nat), F.Nodup → (∀ m ∈ F, m = x0 ∨ m.length ≤ 2) → (dots F).length ≤ 3 * F.length + 10
  | [], _, _ => by simp [dots]
  | m :: F, h1, h2 => by
    obtain ⟨hn, h1⟩ := List.nodup_cons.mp h1
    have h2' : ∀ z ∈ F, z = x0 ∨ z.length ≤ 2 := fun z hz => h2 z (List.mem_cons_of_mem _ hz)
    rw [dots_cons]
    simp only [List.length_append, List.length_cons]
    rcases h2 m List.mem_cons_self with e | e
    · have := dlen0 (x0 := x0) F (fun z hz ez => hn (by rw [e, ← ez]; exact hz)) h2'
      rw [e]
      omega
    · have := dlen hx F h1 h2'
      omega
theorem foundGo (N kd nm : Slot) (S : List (List Nat)) (x0 : List Nat) (hS : Sg S x0) : ∀ (ds : List PyData) (F : List (List Nat)) (k m : Slot) (cs : List Int) (a b : Int), 0 ≤ a → F ≠ [] → F.Nodup → (∀ x ∈ F, x ∈ S) → F.length + ds.length ≤ 1000 → ∃ (F' : List (List Nat)) (k' m' : Slot) (cs' : List Int) (a' b' : Int), mForGo (gV 6) L__law_step_1 ds [.st 2, N, .bor (.list (S.map tS)), kd, nm, .own (.list (F.map tS)), k, m] (SW cs a b) = some (.nx [.st 2, N, .bor (.list (S.map tS)), kd, nm, .own (.list (F'.map tS)), k', m'], SW cs' a' b') ∧ F' ≠ [] ∧ F'.Nodup ∧ (∀ x ∈ F', x ∈ S) ∧ F'.length ≤ F.length + ds.length ∧ 0 ≤ a'
  | [], F, k, m, cs, a, b, ha, h1, h2, h3, _ => ⟨F, k, m, cs, a, b, rfl, h1, h2, h3, Nat.le_refl _, ha⟩
  | d :: ds, F, k, m, cs, a, b, ha, h1, h2, h3, h4 => by
    rw [List.length_cons] at h4
    have cl : cLen [.list (S.map tS)] = some (.int 8) := by
      show some (PyData.int ((S.map tS).length : Nat)) = _
      rw [List.length_map, hS.l]; rfl
    obtain ⟨i, cs1, a1, b1, e1, g1, g2, ha1⟩ := nx (q := mVar 0) (f := mL (eCall cLen (aCons (eB 2) aNil))) (ρ := [.st 2, N, .bor (.list (S.map tS)), kd, nm, .own (.list (F.map tS)), .val d, m]) cs a b ha 8 (by decide) (by decide) (fun _ => rfl) (fun _ => by simp -implicitDefEqProofs only [eK_r, eV_0, eV_s, eB_0v, eB_0b, eB_0p, eB_0o, eB_s, eP_0v, eP_0b, eP_s, eS_0, eS_s, getS_0, getS_s, aNil_r, aCons_r, eOp_r, eUn_r, eCall_r, eBm_r, eTup_r, eLst_r, eIf_r, eAnd_r, eOr_r, eNot_r, eIs_r, eChain_r, eSl_r, oNo_r, oSo_r, asI_r, bT_r, bV_r, bYes_r, asB_r, truth_b, truth_l, truth_t, truth_n, truth_i, bAnd_r, bOr_r, bNot_r, oAdd_i, oSub_i, oNeg_i, oLt_i, oLe_i, oGt_i, oGe_i, cInt_i, cInt_b, cLen_l, cLen_t, cList_l, cList_t, cMax2_i, cMin2_i, cAbs_i, isT_int_i, isT_bool_i, isT_bool_b, isT_int_b, isT_tuple_t, isT_list_l, oEq_i, oNe_i, oEq_b, oNe_b, oIsN_n, oNotN_n, oIsN_i, oNotN_i, oIsB_b, oNotB_b, sSeqn_r, sNext_r, sBrk_r, sCnt_r, sRetN_r, sExpr_r, sRet_r, sRetOwn_r, sIf_r, sSet_r, sOwn_r, sAsg_r, gV_r, gT_r, gsNil_r, gsCons_r, sFz_r, sAug_r, addI_r, subI_r, sSeq_r, sArgs_r, itemsOf_l, itemsOf_t, sMut_r, fApp_r, Option.bind_some, Option.map_some, List.length_cons, List.length_nil, Nat.zero_add, Nat.reduceAdd, Nat.reduceLT, Nat.reduceLeDiff, List.set_cons_zero, List.set_cons_succ, if_true, Bool.false_eq_true, if_false, Bool.not_true, Bool.not_false, decide_true, decide_false, reduceCtorEq, unD_nil, unD_d, mL_r, mLB_r, mOp_r, mUn_r, mT_r, mV_r, mNot_r, mAndB_r, mOrB_r, mIte_r, maNil_r, maD_r, mF_r, mFK_r, mQ_r, mQR_r, mRv_0, mRv_s, mAndV_r, mOrV_r, mNotV_r, mNext_r, mIf_r, mSet_r, mOwn_r, mAny_r, mAsg_r, mRet_r, List.cons_append, List.nil_append, List.append_nil, cl])
    obtain ⟨x, hx, ex⟩ := pickT S g1 (by rw [hS.l]; exact g2)
    have ni := tNotInL (hS.w x hx).asc (fun y hy => (hS.w y (h3 y hy)).asc)
    have la : (F.map tS).length < sizeLine := by rw [List.length_map, sizeLine_eq]; omega
    have st : ∃ F2 : List (List Nat), L__law_step_1 [.st 2, N, .bor (.list (S.map tS)), kd, nm, .own (.list (F.map tS)), .val d, m] (SW cs a b) = some (.nx [.st 2, N, .bor (.list (S.map tS)), kd, nm, .own (.list (F2.map tS)), .val d, .val (tS x)], SW cs1 a1 b1) ∧ F2 ≠ [] ∧ F2.Nodup ∧ (∀ x ∈ F2, x ∈ S) ∧ F2.length ≤ F.length + 1 := by
      have s1 : L__law_step_1 [.st 2, N, .bor (.list (S.map tS)), kd, nm, .own (.list (F.map tS)), .val d, m] (SW cs a b) = (mIf (mLB (bT (eOp oNotIn (eB 7) (eB 5)))) (mS (sMut fApp 5 (aCons (eV 7) aNil))) mNext) [.st 2, N, .bor (.list (S.map tS)), kd, nm, .own (.list (F.map tS)), .val d, .val (tS x)] (SW cs1 a1 b1) := by
        unfold L__law_step_1
        rw [mseq_nx (mSet_eq (d := tS x) (w1 := SW cs1 a1 b1) (by simp -implicitDefEqProofs only [eK_r, eV_0, eV_s, eB_0v, eB_0b, eB_0p, eB_0o, eB_s, eP_0v, eP_0b, eP_s, eS_0, eS_s, getS_0, getS_s, aNil_r, aCons_r, eOp_r, eUn_r, eCall_r, eBm_r, eTup_r, eLst_r, eIf_r, eAnd_r, eOr_r, eNot_r, eIs_r, eChain_r, eSl_r, oNo_r, oSo_r, asI_r, bT_r, bV_r, bYes_r, asB_r, truth_b, truth_l, truth_t, truth_n, truth_i, bAnd_r, bOr_r, bNot_r, oAdd_i, oSub_i, oNeg_i, oLt_i, oLe_i, oGt_i, oGe_i, cInt_i, cInt_b, cLen_l, cLen_t, cList_l, cList_t, cMax2_i, cMin2_i, cAbs_i, isT_int_i, isT_bool_i, isT_bool_b, isT_int_b, isT_tuple_t, isT_list_l, oEq_i, oNe_i, oEq_b, oNe_b, oIsN_n, oNotN_n, oIsN_i, oNotN_i, oIsB_b, oNotB_b, sSeqn_r, sNext_r, sBrk_r, sCnt_r, sRetN_r, sExpr_r, sRet_r, sRetOwn_r, sIf_r, sSet_r, sOwn_r, sAsg_r, gV_r, gT_r, gsNil_r, gsCons_r, sFz_r, sAug_r, addI_r, subI_r, sSeq_r, sArgs_r, itemsOf_l, itemsOf_t, sMut_r, fApp_r, Option.bind_some, Option.map_some, List.length_cons, List.length_nil, Nat.zero_add, Nat.reduceAdd, Nat.reduceLT, Nat.reduceLeDiff, List.set_cons_zero, List.set_cons_succ, if_true, Bool.false_eq_true, if_false, Bool.not_true, Bool.not_false, decide_true, decide_false, reduceCtorEq, unD_nil, unD_d, mL_r, mLB_r, mOp_r, mUn_r, mT_r, mV_r, mNot_r, mAndB_r, mOrB_r, mIte_r, maNil_r, maD_r, mF_r, mFK_r, mQ_r, mQR_r, mRv_0, mRv_s, mAndV_r, mOrV_r, mNotV_r, mNext_r, mIf_r, mSet_r, mOwn_r, mAny_r, mAsg_r, mRet_r, List.cons_append, List.nil_append, List.append_nil, e1, ex]) (by simp))]
        rfl
      by_cases c : x ∈ F
      · refine ⟨F, ?_, h1, h2, h3, by omega⟩
        rw [decide_eq_true c] at ni
        rw [s1, mIf_f (w1 := SW cs1 a1 b1) (by simp -implicitDefEqProofs only [eK_r, eV_0, eV_s, eB_0v, eB_0b, eB_0p, eB_0o, eB_s, eP_0v, eP_0b, eP_s, eS_0, eS_s, getS_0, getS_s, aNil_r, aCons_r, eOp_r, eUn_r, eCall_r, eBm_r, eTup_r, eLst_r, eIf_r, eAnd_r, eOr_r, eNot_r, eIs_r, eChain_r, eSl_r, oNo_r, oSo_r, asI_r, bT_r, bV_r, bYes_r, asB_r, truth_b, truth_l, truth_t, truth_n, truth_i, bAnd_r, bOr_r, bNot_r, oAdd_i, oSub_i, oNeg_i, oLt_i, oLe_i, oGt_i, oGe_i, cInt_i, cInt_b, cLen_l, cLen_t, cList_l, cList_t, cMax2_i, cMin2_i, cAbs_i, isT_int_i, isT_bool_i, isT_bool_b, isT_int_b, isT_tuple_t, isT_list_l, oEq_i, oNe_i, oEq_b, oNe_b, oIsN_n, oNotN_n, oIsN_i, oNotN_i, oIsB_b, oNotB_b, sSeqn_r, sNext_r, sBrk_r, sCnt_r, sRetN_r, sExpr_r, sRet_r, sRetOwn_r, sIf_r, sSet_r, sOwn_r, sAsg_r, gV_r, gT_r, gsNil_r, gsCons_r, sFz_r, sAug_r, addI_r, subI_r, sSeq_r, sArgs_r, itemsOf_l, itemsOf_t, sMut_r, fApp_r, Option.bind_some, Option.map_some, List.length_cons, List.length_nil, Nat.zero_add, Nat.reduceAdd, Nat.reduceLT, Nat.reduceLeDiff, List.set_cons_zero, List.set_cons_succ, if_true, Bool.false_eq_true, if_false, Bool.not_true, Bool.not_false, decide_true, decide_false, reduceCtorEq, unD_nil, unD_d, mL_r, mLB_r, mOp_r, mUn_r, mT_r, mV_r, mNot_r, mAndB_r, mOrB_r, mIte_r, maNil_r, maD_r, mF_r, mFK_r, mQ_r, mQR_r, mRv_0, mRv_s, mAndV_r, mOrV_r, mNotV_r, mNext_r, mIf_r, mSet_r, mOwn_r, mAny_r, mAsg_r, mRet_r, List.cons_append, List.nil_append, List.append_nil, ni])]
        rfl
      · refine ⟨F ++ [x], ?_, by simp, ?_, ?_, by rw [List.length_append]; simp⟩
        · rw [decide_eq_false c] at ni
          rw [s1, mIf_t (w1 := SW cs1 a1 b1) (by simp -implicitDefEqProofs only [eK_r, eV_0, eV_s, eB_0v, eB_0b, eB_0p, eB_0o, eB_s, eP_0v, eP_0b, eP_s, eS_0, eS_s, getS_0, getS_s, aNil_r, aCons_r, eOp_r, eUn_r, eCall_r, eBm_r, eTup_r, eLst_r, eIf_r, eAnd_r, eOr_r, eNot_r, eIs_r, eChain_r, eSl_r, oNo_r, oSo_r, asI_r, bT_r, bV_r, bYes_r, asB_r, truth_b, truth_l, truth_t, truth_n, truth_i, bAnd_r, bOr_r, bNot_r, oAdd_i, oSub_i, oNeg_i, oLt_i, oLe_i, oGt_i, oGe_i, cInt_i, cInt_b, cLen_l, cLen_t, cList_l, cList_t, cMax2_i, cMin2_i, cAbs_i, isT_int_i, isT_bool_i, isT_bool_b, isT_int_b, isT_tuple_t, isT_list_l, oEq_i, oNe_i, oEq_b, oNe_b, oIsN_n, oNotN_n, oIsN_i, oNotN_i, oIsB_b, oNotB_b, sSeqn_r, sNext_r, sBrk_r, sCnt_r, sRetN_r, sExpr_r, sRet_r, sRetOwn_r, sIf_r, sSet_r, sOwn_r, sAsg_r, gV_r, gT_r, gsNil_r, gsCons_r, sFz_r, sAug_r, addI_r, subI_r, sSeq_r, sArgs_r, itemsOf_l, itemsOf_t, sMut_r, fApp_r, Option.bind_some, Option.map_some, List.length_cons, List.length_nil, Nat.zero_add, Nat.reduceAdd, Nat.reduceLT, Nat.reduceLeDiff, List.set_cons_zero, List.set_cons_succ, if_true, Bool.false_eq_true, if_false, Bool.not_true, Bool.not_false, decide_true, decide_false, reduceCtorEq, unD_nil, unD_d, mL_r, mLB_r, mOp_r, mUn_r, mT_r, mV_r, mNot_r, mAndB_r, mOrB_r, mIte_r, maNil_r, maD_r, mF_r, mFK_r, mQ_r, mQR_r, mRv_0, mRv_s, mAndV_r, mOrV_r, mNotV_r, mNext_r, mIf_r, mSet_r, mOwn_r, mAny_r, mAsg_r, mRet_r, List.cons_append, List.nil_append, List.append_nil, ni]), List.map_append]
          exact mS_nx (by simp -implicitDefEqProofs only [eK_r, eV_0, eV_s, eB_0v, eB_0b, eB_0p, eB_0o, eB_s, eP_0v, eP_0b, eP_s, eS_0, eS_s, getS_0, getS_s, aNil_r, aCons_r, eOp_r, eUn_r, eCall_r, eBm_r, eTup_r, eLst_r, eIf_r, eAnd_r, eOr_r, eNot_r, eIs_r, eChain_r, eSl_r, oNo_r, oSo_r, asI_r, bT_r, bV_r, bYes_r, asB_r, truth_b, truth_l, truth_t, truth_n, truth_i, bAnd_r, bOr_r, bNot_r, oAdd_i, oSub_i, oNeg_i, oLt_i, oLe_i, oGt_i, oGe_i, cInt_i, cInt_b, cLen_l, cLen_t, cList_l, cList_t, cMax2_i, cMin2_i, cAbs_i, isT_int_i, isT_bool_i, isT_bool_b, isT_int_b, isT_tuple_t, isT_list_l, oEq_i, oNe_i, oEq_b, oNe_b, oIsN_n, oNotN_n, oIsN_i, oNotN_i, oIsB_b, oNotB_b, sSeqn_r, sNext_r, sBrk_r, sCnt_r, sRetN_r, sExpr_r, sRet_r, sRetOwn_r, sIf_r, sSet_r, sOwn_r, sAsg_r, gV_r, gT_r, gsNil_r, gsCons_r, sFz_r, sAug_r, addI_r, subI_r, sSeq_r, sArgs_r, itemsOf_l, itemsOf_t, sMut_r, fApp_r, Option.bind_some, Option.map_some, List.length_cons, List.length_nil, Nat.zero_add, Nat.reduceAdd, Nat.reduceLT, Nat.reduceLeDiff, List.set_cons_zero, List.set_cons_succ, if_true, Bool.false_eq_true, if_false, Bool.not_true, Bool.not_false, decide_true, decide_false, reduceCtorEq, la]; rfl)
        · rw [List.nodup_append]
          exact ⟨h2, List.nodup_cons.mpr ⟨List.not_mem_nil, List.nodup_nil⟩, fun y hy z hz e => c (by rw [← List.mem_singleton.mp hz, ← e]; exact hy)⟩
        · intro y hy
          rcases List.mem_append.mp hy with hy | hy
          · exact h3 y hy
          · rw [List.mem_singleton.mp hy]; exact hx
    obtain ⟨F2, e2, g3, g4, g5, g6⟩ := st
    obtain ⟨F', k', m', cs', a', b', e3, q1, q2, q3, q4, q5⟩ := foundGo N kd nm S x0 hS ds F2 (.val d) (.val (tS x)) cs1 a1 b1 ha1 g3 g4 g5 (by omega)
    refine ⟨F', k', m', cs', a', b', ?_, q1, q2, q3, by rw [List.length_cons]; omega, q5⟩
    rw [mForGo_one (ρ1 := [.st 2, N, .bor (.list (S.map tS)), kd, nm, .own (.list (F.map tS)), .val d, m]) rfl e2]
    exact e3
theorem step_ex (NM S : List (List Nat)) (x0 : List Nat) (hN : ∀ m ∈ NM, Wd1 m) (lN : NM.length = 3) (hS : Sg S x0) (cs : List Int) (a b : Int) (ha : 0 ≤ a) : ∃ (n : List Nat) (ms : List (List Nat)) (cs' : List Int) (a' b' : Int), F__law_step [.r 2, .d (.list (NM.map tS)), .d (.list (S.map tS))] (SW cs a b) = some (.d (.tuple [tS n, .tuple (ms.map tS)]), SW cs' a' b') ∧ Sok1 n ms ∧ n.length + (dots ms).length ≤ 60 ∧ 0 ≤ a' := by
  suffices h : ∃ (n : List Nat) (ms : List (List Nat)) (cs' : List Int) (a' b' : Int), B__law_step [.st 2, .bor (.list (NM.map tS)), .bor (.list (S.map tS)), .un, .un, .un, .un, .un] (SW cs a b) = some (.rt (.d (.tuple [tS n, .tuple (ms.map tS)])), SW cs' a' b') ∧ Sok1 n ms ∧ n.length + (dots ms).length ≤ 60 ∧ 0 ≤ a' by
    obtain ⟨n, ms, cs', a', b', e, h2⟩ := h
    exact ⟨n, ms, cs', a', b', boxW_rt rfl e, h2⟩
  have cN : cLen [.list (NM.map tS)] = some (.int 3) := by
    show some (PyData.int ((NM.map tS).length : Nat)) = _
    rw [List.length_map, lN]; rfl
  have cS : cLen [.list (S.map tS)] = some (.int 8) := by
    show some (PyData.int ((S.map tS).length : Nat)) = _
    rw [List.length_map, hS.l]; rfl
  have l0 : (0 : Nat) ≤ sizeLine := Nat.zero_le _
  have l1 : (0 + 1 : Nat) ≤ sizeLine := size_le (by decide)
  have l2 : (0 + 1 + 1 : Nat) ≤ sizeLine := size_le (by decide)
  have l4 : (0 + 1 + 1 + 1 + 1 : Nat) ≤ sizeLine := size_le (by decide)
  unfold B__law_step
  rw [lit_star, lit_A]
  obtain ⟨k, cs1, a1, b1, e1, g1, g2, ha1⟩ := nx (q := mVar 0) (f := mL (eK (.int 5))) (ρ := [.st 2, .bor (.list (NM.map tS)), .bor (.list (S.map tS)), .un, .un, .un, .un, .un]) cs a b ha 5 (by decide) (by decide) (fun _ => rfl) (fun _ => rfl)
  rw [mseq_nx (mSet_eq e1 (by simp))]
  show ∃ n ms cs' a' b', mSeq _ _ [.st 2, .bor (.list (NM.map tS)), .bor (.list (S.map tS)), .val (.int k), .un, .un, .un, .un] _ = _ ∧ _
  obtain ⟨i, cs2, a2, b2, e2, g3, g4, ha2⟩ := nx (q := mVar 0) (f := mL (eCall cLen (aCons (eB 1) aNil))) (ρ := [.st 2, .bor (.list (NM.map tS)), .bor (.list (S.map tS)), .val (.int k), .un, .un, .un, .un]) cs1 a1 b1 ha1 3 (by decide) (by decide) (fun _ => rfl) (fun _ => by simp -implicitDefEqProofs only [eK_r, eV_0, eV_s, eB_0v, eB_0b, eB_0p, eB_0o, eB_s, eP_0v, eP_0b, eP_s, eS_0, eS_s, getS_0, getS_s, aNil_r, aCons_r, eOp_r, eUn_r, eCall_r, eBm_r, eTup_r, eLst_r, eIf_r, eAnd_r, eOr_r, eNot_r, eIs_r, eChain_r, eSl_r, oNo_r, oSo_r, asI_r, bT_r, bV_r, bYes_r, asB_r, truth_b, truth_l, truth_t, truth_n, truth_i, bAnd_r, bOr_r, bNot_r, oAdd_i, oSub_i, oNeg_i, oLt_i, oLe_i, oGt_i, oGe_i, cInt_i, cInt_b, cLen_l, cLen_t, cList_l, cList_t, cMax2_i, cMin2_i, cAbs_i, isT_int_i, isT_bool_i, isT_bool_b, isT_int_b, isT_tuple_t, isT_list_l, oEq_i, oNe_i, oEq_b, oNe_b, oIsN_n, oNotN_n, oIsN_i, oNotN_i, oIsB_b, oNotB_b, sSeqn_r, sNext_r, sBrk_r, sCnt_r, sRetN_r, sExpr_r, sRet_r, sRetOwn_r, sIf_r, sSet_r, sOwn_r, sAsg_r, gV_r, gT_r, gsNil_r, gsCons_r, sFz_r, sAug_r, addI_r, subI_r, sSeq_r, sArgs_r, itemsOf_l, itemsOf_t, sMut_r, fApp_r, Option.bind_some, Option.map_some, List.length_cons, List.length_nil, Nat.zero_add, Nat.reduceAdd, Nat.reduceLT, Nat.reduceLeDiff, List.set_cons_zero, List.set_cons_succ, if_true, Bool.false_eq_true, if_false, Bool.not_true, Bool.not_false, decide_true, decide_false, reduceCtorEq, unD_nil, unD_d, mL_r, mLB_r, mOp_r, mUn_r, mT_r, mV_r, mNot_r, mAndB_r, mOrB_r, mIte_r, maNil_r, maD_r, mF_r, mFK_r, mQ_r, mQR_r, mRv_0, mRv_s, mAndV_r, mOrV_r, mNotV_r, mNext_r, mIf_r, mSet_r, mOwn_r, mAny_r, mAsg_r, mRet_r, List.cons_append, List.nil_append, List.append_nil, cN])
  obtain ⟨n, hn, en⟩ := pickT NM g3 (by rw [lN]; exact g4)
  have wn := hN n hn
  rw [mseq_nx (mSet_eq (d := tS n) (w1 := SW cs2 a2 b2) (by simp -implicitDefEqProofs only [eK_r, eV_0, eV_s, eB_0v, eB_0b, eB_0p, eB_0o, eB_s, eP_0v, eP_0b, eP_s, eS_0, eS_s, getS_0, getS_s, aNil_r, aCons_r, eOp_r, eUn_r, eCall_r, eBm_r, eTup_r, eLst_r, eIf_r, eAnd_r, eOr_r, eNot_r, eIs_r, eChain_r, eSl_r, oNo_r, oSo_r, asI_r, bT_r, bV_r, bYes_r, asB_r, truth_b, truth_l, truth_t, truth_n, truth_i, bAnd_r, bOr_r, bNot_r, oAdd_i, oSub_i, oNeg_i, oLt_i, oLe_i, oGt_i, oGe_i, cInt_i, cInt_b, cLen_l, cLen_t, cList_l, cList_t, cMax2_i, cMin2_i, cAbs_i, isT_int_i, isT_bool_i, isT_bool_b, isT_int_b, isT_tuple_t, isT_list_l, oEq_i, oNe_i, oEq_b, oNe_b, oIsN_n, oNotN_n, oIsN_i, oNotN_i, oIsB_b, oNotB_b, sSeqn_r, sNext_r, sBrk_r, sCnt_r, sRetN_r, sExpr_r, sRet_r, sRetOwn_r, sIf_r, sSet_r, sOwn_r, sAsg_r, gV_r, gT_r, gsNil_r, gsCons_r, sFz_r, sAug_r, addI_r, subI_r, sSeq_r, sArgs_r, itemsOf_l, itemsOf_t, sMut_r, fApp_r, Option.bind_some, Option.map_some, List.length_cons, List.length_nil, Nat.zero_add, Nat.reduceAdd, Nat.reduceLT, Nat.reduceLeDiff, List.set_cons_zero, List.set_cons_succ, if_true, Bool.false_eq_true, if_false, Bool.not_true, Bool.not_false, decide_true, decide_false, reduceCtorEq, unD_nil, unD_d, mL_r, mLB_r, mOp_r, mUn_r, mT_r, mV_r, mNot_r, mAndB_r, mOrB_r, mIte_r, maNil_r, maD_r, mF_r, mFK_r, mQ_r, mQR_r, mRv_0, mRv_s, mAndV_r, mOrV_r, mNotV_r, mNext_r, mIf_r, mSet_r, mOwn_r, mAny_r, mAsg_r, mRet_r, List.cons_append, List.nil_append, List.append_nil, e2, en]) (by simp))]
  show ∃ n ms cs' a' b', mSeq _ _ [.st 2, .bor (.list (NM.map tS)), .bor (.list (S.map tS)), .val (.int k), .val (tS _), .un, .un, .un] _ = _ ∧ _
  by_cases c0 : k = 0
  · refine ⟨[42], [], cs2, a2, b2, ?_, ⟨.inl ⟨rfl, rfl⟩, fun m hm => (by cases hm), List.nodup_nil⟩, by decide, ha2⟩
    rw [mseq_rt (x := .d (.tuple [tS [42], .tuple []])) (w1 := SW cs2 a2 b2) (by simp -implicitDefEqProofs only [eK_r, eV_0, eV_s, eB_0v, eB_0b, eB_0p, eB_0o, eB_s, eP_0v, eP_0b, eP_s, eS_0, eS_s, getS_0, getS_s, aNil_r, aCons_r, eOp_r, eUn_r, eCall_r, eBm_r, eTup_r, eLst_r, eIf_r, eAnd_r, eOr_r, eNot_r, eIs_r, eChain_r, eSl_r, oNo_r, oSo_r, asI_r, bT_r, bV_r, bYes_r, asB_r, truth_b, truth_l, truth_t, truth_n, truth_i, bAnd_r, bOr_r, bNot_r, oAdd_i, oSub_i, oNeg_i, oLt_i, oLe_i, oGt_i, oGe_i, cInt_i, cInt_b, cLen_l, cLen_t, cList_l, cList_t, cMax2_i, cMin2_i, cAbs_i, isT_int_i, isT_bool_i, isT_bool_b, isT_int_b, isT_tuple_t, isT_list_l, oEq_i, oNe_i, oEq_b, oNe_b, oIsN_n, oNotN_n, oIsN_i, oNotN_i, oIsB_b, oNotB_b, sSeqn_r, sNext_r, sBrk_r, sCnt_r, sRetN_r, sExpr_r, sRet_r, sRetOwn_r, sIf_r, sSet_r, sOwn_r, sAsg_r, gV_r, gT_r, gsNil_r, gsCons_r, sFz_r, sAug_r, addI_r, subI_r, sSeq_r, sArgs_r, itemsOf_l, itemsOf_t, sMut_r, fApp_r, Option.bind_some, Option.map_some, List.length_cons, List.length_nil, Nat.zero_add, Nat.reduceAdd, Nat.reduceLT, Nat.reduceLeDiff, List.set_cons_zero, List.set_cons_succ, if_true, Bool.false_eq_true, if_false, Bool.not_true, Bool.not_false, decide_true, decide_false, reduceCtorEq, unD_nil, unD_d, mL_r, mLB_r, mOp_r, mUn_r, mT_r, mV_r, mNot_r, mAndB_r, mOrB_r, mIte_r, maNil_r, maD_r, mF_r, mFK_r, mQ_r, mQR_r, mRv_0, mRv_s, mAndV_r, mOrV_r, mNotV_r, mNext_r, mIf_r, mSet_r, mOwn_r, mAny_r, mAsg_r, mRet_r, List.cons_append, List.nil_append, List.append_nil, c0, l0, l2])]
    rfl
  rw [mseq_nx (ρ' := [.st 2, .bor (.list (NM.map tS)), .bor (.list (S.map tS)), .val (.int k), .val (tS n), .un, .un, .un]) (w1 := SW cs2 a2 b2) (by simp -implicitDefEqProofs only [eK_r, eV_0, eV_s, eB_0v, eB_0b, eB_0p, eB_0o, eB_s, eP_0v, eP_0b, eP_s, eS_0, eS_s, getS_0, getS_s, aNil_r, aCons_r, eOp_r, eUn_r, eCall_r, eBm_r, eTup_r, eLst_r, eIf_r, eAnd_r, eOr_r, eNot_r, eIs_r, eChain_r, eSl_r, oNo_r, oSo_r, asI_r, bT_r, bV_r, bYes_r, asB_r, truth_b, truth_l, truth_t, truth_n, truth_i, bAnd_r, bOr_r, bNot_r, oAdd_i, oSub_i, oNeg_i, oLt_i, oLe_i, oGt_i, oGe_i, cInt_i, cInt_b, cLen_l, cLen_t, cList_l, cList_t, cMax2_i, cMin2_i, cAbs_i, isT_int_i, isT_bool_i, isT_bool_b, isT_int_b, isT_tuple_t, isT_list_l, oEq_i, oNe_i, oEq_b, oNe_b, oIsN_n, oNotN_n, oIsN_i, oNotN_i, oIsB_b, oNotB_b, sSeqn_r, sNext_r, sBrk_r, sCnt_r, sRetN_r, sExpr_r, sRet_r, sRetOwn_r, sIf_r, sSet_r, sOwn_r, sAsg_r, gV_r, gT_r, gsNil_r, gsCons_r, sFz_r, sAug_r, addI_r, subI_r, sSeq_r, sArgs_r, itemsOf_l, itemsOf_t, sMut_r, fApp_r, Option.bind_some, Option.map_some, List.length_cons, List.length_nil, Nat.zero_add, Nat.reduceAdd, Nat.reduceLT, Nat.reduceLeDiff, List.set_cons_zero, List.set_cons_succ, if_true, Bool.false_eq_true, if_false, Bool.not_true, Bool.not_false, decide_true, decide_false, reduceCtorEq, unD_nil, unD_d, mL_r, mLB_r, mOp_r, mUn_r, mT_r, mV_r, mNot_r, mAndB_r, mOrB_r, mIte_r, maNil_r, maD_r, mF_r, mFK_r, mQ_r, mQR_r, mRv_0, mRv_s, mAndV_r, mOrV_r, mNotV_r, mNext_r, mIf_r, mSet_r, mOwn_r, mAny_r, mAsg_r, mRet_r, List.cons_append, List.nil_append, List.append_nil, c0])]
  by_cases c1 : k < 3
  · refine ⟨n, [], cs2, a2, b2, ?_, ⟨.inr (.inr wn), fun m hm => (by cases hm), List.nodup_nil⟩, by have := wn.hi; rw [show dots [] = [] from rfl]; simp only [List.length_nil]; omega, ha2⟩
    rw [mseq_rt (x := .d (.tuple [tS n, .tuple []])) (w1 := SW cs2 a2 b2) (by simp -implicitDefEqProofs only [eK_r, eV_0, eV_s, eB_0v, eB_0b, eB_0p, eB_0o, eB_s, eP_0v, eP_0b, eP_s, eS_0, eS_s, getS_0, getS_s, aNil_r, aCons_r, eOp_r, eUn_r, eCall_r, eBm_r, eTup_r, eLst_r, eIf_r, eAnd_r, eOr_r, eNot_r, eIs_r, eChain_r, eSl_r, oNo_r, oSo_r, asI_r, bT_r, bV_r, bYes_r, asB_r, truth_b, truth_l, truth_t, truth_n, truth_i, bAnd_r, bOr_r, bNot_r, oAdd_i, oSub_i, oNeg_i, oLt_i, oLe_i, oGt_i, oGe_i, cInt_i, cInt_b, cLen_l, cLen_t, cList_l, cList_t, cMax2_i, cMin2_i, cAbs_i, isT_int_i, isT_bool_i, isT_bool_b, isT_int_b, isT_tuple_t, isT_list_l, oEq_i, oNe_i, oEq_b, oNe_b, oIsN_n, oNotN_n, oIsN_i, oNotN_i, oIsB_b, oNotB_b, sSeqn_r, sNext_r, sBrk_r, sCnt_r, sRetN_r, sExpr_r, sRet_r, sRetOwn_r, sIf_r, sSet_r, sOwn_r, sAsg_r, gV_r, gT_r, gsNil_r, gsCons_r, sFz_r, sAug_r, addI_r, subI_r, sSeq_r, sArgs_r, itemsOf_l, itemsOf_t, sMut_r, fApp_r, Option.bind_some, Option.map_some, List.length_cons, List.length_nil, Nat.zero_add, Nat.reduceAdd, Nat.reduceLT, Nat.reduceLeDiff, List.set_cons_zero, List.set_cons_succ, if_true, Bool.false_eq_true, if_false, Bool.not_true, Bool.not_false, decide_true, decide_false, reduceCtorEq, unD_nil, unD_d, mL_r, mLB_r, mOp_r, mUn_r, mT_r, mV_r, mNot_r, mAndB_r, mOrB_r, mIte_r, maNil_r, maD_r, mF_r, mFK_r, mQ_r, mQR_r, mRv_0, mRv_s, mAndV_r, mOrV_r, mNotV_r, mNext_r, mIf_r, mSet_r, mOwn_r, mAny_r, mAsg_r, mRet_r, List.cons_append, List.nil_append, List.append_nil, c1, l0, l2])]
    rfl
  rw [mseq_nx (ρ' := [.st 2, .bor (.list (NM.map tS)), .bor (.list (S.map tS)), .val (.int k), .val (tS n), .un, .un, .un]) (w1 := SW cs2 a2 b2) (by simp -implicitDefEqProofs only [eK_r, eV_0, eV_s, eB_0v, eB_0b, eB_0p, eB_0o, eB_s, eP_0v, eP_0b, eP_s, eS_0, eS_s, getS_0, getS_s, aNil_r, aCons_r, eOp_r, eUn_r, eCall_r, eBm_r, eTup_r, eLst_r, eIf_r, eAnd_r, eOr_r, eNot_r, eIs_r, eChain_r, eSl_r, oNo_r, oSo_r, asI_r, bT_r, bV_r, bYes_r, asB_r, truth_b, truth_l, truth_t, truth_n, truth_i, bAnd_r, bOr_r, bNot_r, oAdd_i, oSub_i, oNeg_i, oLt_i, oLe_i, oGt_i, oGe_i, cInt_i, cInt_b, cLen_l, cLen_t, cList_l, cList_t, cMax2_i, cMin2_i, cAbs_i, isT_int_i, isT_bool_i, isT_bool_b, isT_int_b, isT_tuple_t, isT_list_l, oEq_i, oNe_i, oEq_b, oNe_b, oIsN_n, oNotN_n, oIsN_i, oNotN_i, oIsB_b, oNotB_b, sSeqn_r, sNext_r, sBrk_r, sCnt_r, sRetN_r, sExpr_r, sRet_r, sRetOwn_r, sIf_r, sSet_r, sOwn_r, sAsg_r, gV_r, gT_r, gsNil_r, gsCons_r, sFz_r, sAug_r, addI_r, subI_r, sSeq_r, sArgs_r, itemsOf_l, itemsOf_t, sMut_r, fApp_r, Option.bind_some, Option.map_some, List.length_cons, List.length_nil, Nat.zero_add, Nat.reduceAdd, Nat.reduceLT, Nat.reduceLeDiff, List.set_cons_zero, List.set_cons_succ, if_true, Bool.false_eq_true, if_false, Bool.not_true, Bool.not_false, decide_true, decide_false, reduceCtorEq, unD_nil, unD_d, mL_r, mLB_r, mOp_r, mUn_r, mT_r, mV_r, mNot_r, mAndB_r, mOrB_r, mIte_r, maNil_r, maD_r, mF_r, mFK_r, mQ_r, mQR_r, mRv_0, mRv_s, mAndV_r, mOrV_r, mNotV_r, mNext_r, mIf_r, mSet_r, mOwn_r, mAny_r, mAsg_r, mRet_r, List.cons_append, List.nil_append, List.append_nil, c1])]
  obtain ⟨i3, cs3, a3, b3, e3, g5, g6, ha3⟩ := nx (q := mVar 0) (f := mL (eCall cLen (aCons (eB 2) aNil))) (ρ := [.st 2, .bor (.list (NM.map tS)), .bor (.list (S.map tS)), .val (.int k), .val (tS n), .un, .un, .un]) cs2 a2 b2 ha2 8 (by decide) (by decide) (fun _ => rfl) (fun _ => by simp -implicitDefEqProofs only [eK_r, eV_0, eV_s, eB_0v, eB_0b, eB_0p, eB_0o, eB_s, eP_0v, eP_0b, eP_s, eS_0, eS_s, getS_0, getS_s, aNil_r, aCons_r, eOp_r, eUn_r, eCall_r, eBm_r, eTup_r, eLst_r, eIf_r, eAnd_r, eOr_r, eNot_r, eIs_r, eChain_r, eSl_r, oNo_r, oSo_r, asI_r, bT_r, bV_r, bYes_r, asB_r, truth_b, truth_l, truth_t, truth_n, truth_i, bAnd_r, bOr_r, bNot_r, oAdd_i, oSub_i, oNeg_i, oLt_i, oLe_i, oGt_i, oGe_i, cInt_i, cInt_b, cLen_l, cLen_t, cList_l, cList_t, cMax2_i, cMin2_i, cAbs_i, isT_int_i, isT_bool_i, isT_bool_b, isT_int_b, isT_tuple_t, isT_list_l, oEq_i, oNe_i, oEq_b, oNe_b, oIsN_n, oNotN_n, oIsN_i, oNotN_i, oIsB_b, oNotB_b, sSeqn_r, sNext_r, sBrk_r, sCnt_r, sRetN_r, sExpr_r, sRet_r, sRetOwn_r, sIf_r, sSet_r, sOwn_r, sAsg_r, gV_r, gT_r, gsNil_r, gsCons_r, sFz_r, sAug_r, addI_r, subI_r, sSeq_r, sArgs_r, itemsOf_l, itemsOf_t, sMut_r, fApp_r, Option.bind_some, Option.map_some, List.length_cons, List.length_nil, Nat.zero_add, Nat.reduceAdd, Nat.reduceLT, Nat.reduceLeDiff, List.set_cons_zero, List.set_cons_succ, if_true, Bool.false_eq_true, if_false, Bool.not_true, Bool.not_false, decide_true, decide_false, reduceCtorEq, unD_nil, unD_d, mL_r, mLB_r, mOp_r, mUn_r, mT_r, mV_r, mNot_r, mAndB_r, mOrB_r, mIte_r, maNil_r, maD_r, mF_r, mFK_r, mQ_r, mQR_r, mRv_0, mRv_s, mAndV_r, mOrV_r, mNotV_r, mNext_r, mIf_r, mSet_r, mOwn_r, mAny_r, mAsg_r, mRet_r, List.cons_append, List.nil_append, List.append_nil, cS])
  obtain ⟨x, hx, ex⟩ := pickT S g5 (by rw [hS.l]; exact g6)
  rw [mseq_nx (mOwn_eq (d := .list [tS x]) (w1 := SW cs3 a3 b3) (by simp -implicitDefEqProofs only [eK_r, eV_0, eV_s, eB_0v, eB_0b, eB_0p, eB_0o, eB_s, eP_0v, eP_0b, eP_s, eS_0, eS_s, getS_0, getS_s, aNil_r, aCons_r, eOp_r, eUn_r, eCall_r, eBm_r, eTup_r, eLst_r, eIf_r, eAnd_r, eOr_r, eNot_r, eIs_r, eChain_r, eSl_r, oNo_r, oSo_r, asI_r, bT_r, bV_r, bYes_r, asB_r, truth_b, truth_l, truth_t, truth_n, truth_i, bAnd_r, bOr_r, bNot_r, oAdd_i, oSub_i, oNeg_i, oLt_i, oLe_i, oGt_i, oGe_i, cInt_i, cInt_b, cLen_l, cLen_t, cList_l, cList_t, cMax2_i, cMin2_i, cAbs_i, isT_int_i, isT_bool_i, isT_bool_b, isT_int_b, isT_tuple_t, isT_list_l, oEq_i, oNe_i, oEq_b, oNe_b, oIsN_n, oNotN_n, oIsN_i, oNotN_i, oIsB_b, oNotB_b, sSeqn_r, sNext_r, sBrk_r, sCnt_r, sRetN_r, sExpr_r, sRet_r, sRetOwn_r, sIf_r, sSet_r, sOwn_r, sAsg_r, gV_r, gT_r, gsNil_r, gsCons_r, sFz_r, sAug_r, addI_r, subI_r, sSeq_r, sArgs_r, itemsOf_l, itemsOf_t, sMut_r, fApp_r, Option.bind_some, Option.map_some, List.length_cons, List.length_nil, Nat.zero_add, Nat.reduceAdd, Nat.reduceLT, Nat.reduceLeDiff, List.set_cons_zero, List.set_cons_succ, if_true, Bool.false_eq_true, if_false, Bool.not_true, Bool.not_false, decide_true, decide_false, reduceCtorEq, unD_nil, unD_d, mL_r, mLB_r, mOp_r, mUn_r, mT_r, mV_r, mNot_r, mAndB_r, mOrB_r, mIte_r, maNil_r, maD_r, mF_r, mFK_r, mQ_r, mQR_r, mRv_0, mRv_s, mAndV_r, mOrV_r, mNotV_r, mNext_r, mIf_r, mSet_r, mOwn_r, mAny_r, mAsg_r, mRet_r, List.cons_append, List.nil_append, List.append_nil, mLst_r, e3, ex, l1]) (by simp))]
  show ∃ n ms cs' a' b', mSeq _ _ [.st 2, .bor (.list (NM.map tS)), .bor (.list (S.map tS)), .val (.int k), .val (tS _), .own (.list ([x].map tS)), .un, .un] _ = _ ∧ _
  obtain ⟨i4, cs4, a4, b4, e4, g7, g8, ha4⟩ := nx (q := mVar 0) (f := mL (eK (.int 4))) (ρ := [.st 2, .bor (.list (NM.map tS)), .bor (.list (S.map tS)), .val (.int k), .val (tS n), .own (.list ([x].map tS)), .un, .un]) cs3 a3 b3 ha3 4 (by decide) (by decide) (fun _ => rfl) (fun _ => rfl)
  obtain ⟨v, hv, ev⟩ := pickI [0, 0, 1, 9] g7 (by show i4 < ((4 : Nat) : Int); omega)
  have ev : oIx (.list [.int 0, .int 0, .int 1, .int 9]) (.int i4) = some (.int v) := ev
  have v0 : 0 ≤ v ∧ v ≤ 9 := by
    simp only [List.mem_cons, List.not_mem_nil, or_false] at hv
    omega
  have hr : rng1 [.int v] = some (rangeD 0 v.toNat) := rng1_r (by omega) (by omega)
  obtain ⟨F', k', m', cs5, a5, b5, e5, q1, q2, q3, q4, ha5⟩ := foundGo (.bor (.list (NM.map tS))) (.val (.int k)) (.val (tS n)) S x0 hS (rangeD 0 v.toNat) [x] .un .un cs4 a4 b4 ha4 (by simp) (List.nodup_cons.mpr ⟨List.not_mem_nil, List.nodup_nil⟩) (fun y hy => by rw [List.mem_singleton.mp hy]; exact hx) (by rw [rangeD_len]; simp only [List.length_cons, List.length_nil]; omega)
  rw [rangeD_len] at q4
  simp only [List.length_cons, List.length_nil] at q4
  have dl := dlen hS.x F' q2 fun y hy => hS.s y (q3 y hy)
  rw [mseq_nx ((mFor_eq (w1 := SW cs4 a4 b4) (mArgsI_eq (l := [.d (.int v)]) (w1 := SW cs4 a4 b4) (by simp -implicitDefEqProofs only [eK_r, eV_0, eV_s, eB_0v, eB_0b, eB_0p, eB_0o, eB_s, eP_0v, eP_0b, eP_s, eS_0, eS_s, getS_0, getS_s, aNil_r, aCons_r, eOp_r, eUn_r, eCall_r, eBm_r, eTup_r, eLst_r, eIf_r, eAnd_r, eOr_r, eNot_r, eIs_r, eChain_r, eSl_r, oNo_r, oSo_r, asI_r, bT_r, bV_r, bYes_r, asB_r, truth_b, truth_l, truth_t, truth_n, truth_i, bAnd_r, bOr_r, bNot_r, oAdd_i, oSub_i, oNeg_i, oLt_i, oLe_i, oGt_i, oGe_i, cInt_i, cInt_b, cLen_l, cLen_t, cList_l, cList_t, cMax2_i, cMin2_i, cAbs_i, isT_int_i, isT_bool_i, isT_bool_b, isT_int_b, isT_tuple_t, isT_list_l, oEq_i, oNe_i, oEq_b, oNe_b, oIsN_n, oNotN_n, oIsN_i, oNotN_i, oIsB_b, oNotB_b, sSeqn_r, sNext_r, sBrk_r, sCnt_r, sRetN_r, sExpr_r, sRet_r, sRetOwn_r, sIf_r, sSet_r, sOwn_r, sAsg_r, gV_r, gT_r, gsNil_r, gsCons_r, sFz_r, sAug_r, addI_r, subI_r, sSeq_r, sArgs_r, itemsOf_l, itemsOf_t, sMut_r, fApp_r, Option.bind_some, Option.map_some, List.length_cons, List.length_nil, Nat.zero_add, Nat.reduceAdd, Nat.reduceLT, Nat.reduceLeDiff, List.set_cons_zero, List.set_cons_succ, if_true, Bool.false_eq_true, if_false, Bool.not_true, Bool.not_false, decide_true, decide_false, reduceCtorEq, unD_nil, unD_d, mL_r, mLB_r, mOp_r, mUn_r, mT_r, mV_r, mNot_r, mAndB_r, mOrB_r, mIte_r, maNil_r, maD_r, mF_r, mFK_r, mQ_r, mQR_r, mRv_0, mRv_s, mAndV_r, mOrV_r, mNotV_r, mNext_r, mIf_r, mSet_r, mOwn_r, mAny_r, mAsg_r, mRet_r, List.cons_append, List.nil_append, List.append_nil, e4, l4, ev]) hr)).trans e5)]
  have ct : cTuple [.list (F'.map tS)] = some (.tuple (F'.map tS)) := rfl
  by_cases c3 : k = 3
  · refine ⟨[], F', cs5, a5, b5, ?_, ⟨.inr (.inl ⟨rfl, q1⟩), fun m hm => hS.w m (q3 m hm), q2⟩, by simp only [List.length_nil]; omega, ha5⟩
    rw [mseq_nx (ρ' := [.st 2, .bor (.list (NM.map tS)), .bor (.list (S.map tS)), .val (.int k), .val (tS []), .own (.list (F'.map tS)), k', m']) (w1 := SW cs5 a5 b5) (by
      rw [mIf_t (w1 := SW cs5 a5 b5) (by simp -implicitDefEqProofs only [eK_r, eV_0, eV_s, eB_0v, eB_0b, eB_0p, eB_0o, eB_s, eP_0v, eP_0b, eP_s, eS_0, eS_s, getS_0, getS_s, aNil_r, aCons_r, eOp_r, eUn_r, eCall_r, eBm_r, eTup_r, eLst_r, eIf_r, eAnd_r, eOr_r, eNot_r, eIs_r, eChain_r, eSl_r, oNo_r, oSo_r, asI_r, bT_r, bV_r, bYes_r, asB_r, truth_b, truth_l, truth_t, truth_n, truth_i, bAnd_r, bOr_r, bNot_r, oAdd_i, oSub_i, oNeg_i, oLt_i, oLe_i, oGt_i, oGe_i, cInt_i, cInt_b, cLen_l, cLen_t, cList_l, cList_t, cMax2_i, cMin2_i, cAbs_i, isT_int_i, isT_bool_i, isT_bool_b, isT_int_b, isT_tuple_t, isT_list_l, oEq_i, oNe_i, oEq_b, oNe_b, oIsN_n, oNotN_n, oIsN_i, oNotN_i, oIsB_b, oNotB_b, sSeqn_r, sNext_r, sBrk_r, sCnt_r, sRetN_r, sExpr_r, sRet_r, sRetOwn_r, sIf_r, sSet_r, sOwn_r, sAsg_r, gV_r, gT_r, gsNil_r, gsCons_r, sFz_r, sAug_r, addI_r, subI_r, sSeq_r, sArgs_r, itemsOf_l, itemsOf_t, sMut_r, fApp_r, Option.bind_some, Option.map_some, List.length_cons, List.length_nil, Nat.zero_add, Nat.reduceAdd, Nat.reduceLT, Nat.reduceLeDiff, List.set_cons_zero, List.set_cons_succ, if_true, Bool.false_eq_true, if_false, Bool.not_true, Bool.not_false, decide_true, decide_false, reduceCtorEq, unD_nil, unD_d, mL_r, mLB_r, mOp_r, mUn_r, mT_r, mV_r, mNot_r, mAndB_r, mOrB_r, mIte_r, maNil_r, maD_r, mF_r, mFK_r, mQ_r, mQR_r, mRv_0, mRv_s, mAndV_r, mOrV_r, mNotV_r, mNext_r, mIf_r, mSet_r, mOwn_r, mAny_r, mAsg_r, mRet_r, List.cons_append, List.nil_append, List.append_nil, c3])]
      exact mS_nx (by simp -implicitDefEqProofs only [eK_r, eV_0, eV_s, eB_0v, eB_0b, eB_0p, eB_0o, eB_s, eP_0v, eP_0b, eP_s, eS_0, eS_s, getS_0, getS_s, aNil_r, aCons_r, eOp_r, eUn_r, eCall_r, eBm_r, eTup_r, eLst_r, eIf_r, eAnd_r, eOr_r, eNot_r, eIs_r, eChain_r, eSl_r, oNo_r, oSo_r, asI_r, bT_r, bV_r, bYes_r, asB_r, truth_b, truth_l, truth_t, truth_n, truth_i, bAnd_r, bOr_r, bNot_r, oAdd_i, oSub_i, oNeg_i, oLt_i, oLe_i, oGt_i, oGe_i, cInt_i, cInt_b, cLen_l, cLen_t, cList_l, cList_t, cMax2_i, cMin2_i, cAbs_i, isT_int_i, isT_bool_i, isT_bool_b, isT_int_b, isT_tuple_t, isT_list_l, oEq_i, oNe_i, oEq_b, oNe_b, oIsN_n, oNotN_n, oIsN_i, oNotN_i, oIsB_b, oNotB_b, sSeqn_r, sNext_r, sBrk_r, sCnt_r, sRetN_r, sExpr_r, sRet_r, sRetOwn_r, sIf_r, sSet_r, sOwn_r, sAsg_r, gV_r, gT_r, gsNil_r, gsCons_r, sFz_r, sAug_r, addI_r, subI_r, sSeq_r, sArgs_r, itemsOf_l, itemsOf_t, sMut_r, fApp_r, Option.bind_some, Option.map_some, List.length_cons, List.length_nil, Nat.zero_add, Nat.reduceAdd, Nat.reduceLT, Nat.reduceLeDiff, List.set_cons_zero, List.set_cons_succ, if_true, Bool.false_eq_true, if_false, Bool.not_true, Bool.not_false, decide_true, decide_false, reduceCtorEq]))]
    simp -implicitDefEqProofs only [eK_r, eV_0, eV_s, eB_0v, eB_0b, eB_0p, eB_0o, eB_s, eP_0v, eP_0b, eP_s, eS_0, eS_s, getS_0, getS_s, aNil_r, aCons_r, eOp_r, eUn_r, eCall_r, eBm_r, eTup_r, eLst_r, eIf_r, eAnd_r, eOr_r, eNot_r, eIs_r, eChain_r, eSl_r, oNo_r, oSo_r, asI_r, bT_r, bV_r, bYes_r, asB_r, truth_b, truth_l, truth_t, truth_n, truth_i, bAnd_r, bOr_r, bNot_r, oAdd_i, oSub_i, oNeg_i, oLt_i, oLe_i, oGt_i, oGe_i, cInt_i, cInt_b, cLen_l, cLen_t, cList_l, cList_t, cMax2_i, cMin2_i, cAbs_i, isT_int_i, isT_bool_i, isT_bool_b, isT_int_b, isT_tuple_t, isT_list_l, oEq_i, oNe_i, oEq_b, oNe_b, oIsN_n, oNotN_n, oIsN_i, oNotN_i, oIsB_b, oNotB_b, sSeqn_r, sNext_r, sBrk_r, sCnt_r, sRetN_r, sExpr_r, sRet_r, sRetOwn_r, sIf_r, sSet_r, sOwn_r, sAsg_r, gV_r, gT_r, gsNil_r, gsCons_r, sFz_r, sAug_r, addI_r, subI_r, sSeq_r, sArgs_r, itemsOf_l, itemsOf_t, sMut_r, fApp_r, Option.bind_some, Option.map_some, List.length_cons, List.length_nil, Nat.zero_add, Nat.reduceAdd, Nat.reduceLT, Nat.reduceLeDiff, List.set_cons_zero, List.set_cons_succ, if_true, Bool.false_eq_true, if_false, Bool.not_true, Bool.not_false, decide_true, decide_false, reduceCtorEq, unD_nil, unD_d, mL_r, mLB_r, mOp_r, mUn_r, mT_r, mV_r, mNot_r, mAndB_r, mOrB_r, mIte_r, maNil_r, maD_r, mF_r, mFK_r, mQ_r, mQR_r, mRv_0, mRv_s, mAndV_r, mOrV_r, mNotV_r, mNext_r, mIf_r, mSet_r, mOwn_r, mAny_r, mAsg_r, mRet_r, List.cons_append, List.nil_append, List.append_nil, ct, l2]
  · refine ⟨n, F', cs5, a5, b5, ?_, ⟨.inr (.inr wn), fun m hm => hS.w m (q3 m hm), q2⟩, by have := wn.hi; omega, ha5⟩
    rw [mseq_nx (ρ' := [.st 2, .bor (.list (NM.map tS)), .bor (.list (S.map tS)), .val (.int k), .val (tS n), .own (.list (F'.map tS)), k', m']) (w1 := SW cs5 a5 b5) (by
      rw [mIf_f (w1 := SW cs5 a5 b5) (by simp -implicitDefEqProofs only [eK_r, eV_0, eV_s, eB_0v, eB_0b, eB_0p, eB_0o, eB_s, eP_0v, eP_0b, eP_s, eS_0, eS_s, getS_0, getS_s, aNil_r, aCons_r, eOp_r, eUn_r, eCall_r, eBm_r, eTup_r, eLst_r, eIf_r, eAnd_r, eOr_r, eNot_r, eIs_r, eChain_r, eSl_r, oNo_r, oSo_r, asI_r, bT_r, bV_r, bYes_r, asB_r, truth_b, truth_l, truth_t, truth_n, truth_i, bAnd_r, bOr_r, bNot_r, oAdd_i, oSub_i, oNeg_i, oLt_i, oLe_i, oGt_i, oGe_i, cInt_i, cInt_b, cLen_l, cLen_t, cList_l, cList_t, cMax2_i, cMin2_i, cAbs_i, isT_int_i, isT_bool_i, isT_bool_b, isT_int_b, isT_tuple_t, isT_list_l, oEq_i, oNe_i, oEq_b, oNe_b, oIsN_n, oNotN_n, oIsN_i, oNotN_i, oIsB_b, oNotB_b, sSeqn_r, sNext_r, sBrk_r, sCnt_r, sRetN_r, sExpr_r, sRet_r, sRetOwn_r, sIf_r, sSet_r, sOwn_r, sAsg_r, gV_r, gT_r, gsNil_r, gsCons_r, sFz_r, sAug_r, addI_r, subI_r, sSeq_r, sArgs_r, itemsOf_l, itemsOf_t, sMut_r, fApp_r, Option.bind_some, Option.map_some, List.length_cons, List.length_nil, Nat.zero_add, Nat.reduceAdd, Nat.reduceLT, Nat.reduceLeDiff, List.set_cons_zero, List.set_cons_succ, if_true, Bool.false_eq_true, if_false, Bool.not_true, Bool.not_false, decide_true, decide_false, reduceCtorEq, unD_nil, unD_d, mL_r, mLB_r, mOp_r, mUn_r, mT_r, mV_r, mNot_r, mAndB_r, mOrB_r, mIte_r, maNil_r, maD_r, mF_r, mFK_r, mQ_r, mQR_r, mRv_0, mRv_s, mAndV_r, mOrV_r, mNotV_r, mNext_r, mIf_r, mSet_r, mOwn_r, mAny_r, mAsg_r, mRet_r, List.cons_append, List.nil_append, List.append_nil, c3])]
      rfl)]
    simp -implicitDefEqProofs only [eK_r, eV_0, eV_s, eB_0v, eB_0b, eB_0p, eB_0o, eB_s, eP_0v, eP_0b, eP_s, eS_0, eS_s, getS_0, getS_s, aNil_r, aCons_r, eOp_r, eUn_r, eCall_r, eBm_r, eTup_r, eLst_r, eIf_r, eAnd_r, eOr_r, eNot_r, eIs_r, eChain_r, eSl_r, oNo_r, oSo_r, asI_r, bT_r, bV_r, bYes_r, asB_r, truth_b, truth_l, truth_t, truth_n, truth_i, bAnd_r, bOr_r, bNot_r, oAdd_i, oSub_i, oNeg_i, oLt_i, oLe_i, oGt_i, oGe_i, cInt_i, cInt_b, cLen_l, cLen_t, cList_l, cList_t, cMax2_i, cMin2_i, cAbs_i, isT_int_i, isT_bool_i, isT_bool_b, isT_int_b, isT_tuple_t, isT_list_l, oEq_i, oNe_i, oEq_b, oNe_b, oIsN_n, oNotN_n, oIsN_i, oNotN_i, oIsB_b, oNotB_b, sSeqn_r, sNext_r, sBrk_r, sCnt_r, sRetN_r, sExpr_r, sRet_r, sRetOwn_r, sIf_r, sSet_r, sOwn_r, sAsg_r, gV_r, gT_r, gsNil_r, gsCons_r, sFz_r, sAug_r, addI_r, subI_r, sSeq_r, sArgs_r, itemsOf_l, itemsOf_t, sMut_r, fApp_r, Option.bind_some, Option.map_some, List.length_cons, List.length_nil, Nat.zero_add, Nat.reduceAdd, Nat.reduceLT, Nat.reduceLeDiff, List.set_cons_zero, List.set_cons_succ, if_true, Bool.false_eq_true, if_false, Bool.not_true, Bool.not_false, decide_true, decide_false, reduceCtorEq, unD_nil, unD_d, mL_r, mLB_r, mOp_r, mUn_r, mT_r, mV_r, mNot_r, mAndB_r, mOrB_r, mIte_r, maNil_r, maD_r, mF_r, mFK_r, mQ_r, mQR_r, mRv_0, mRv_s, mAndV_r, mOrV_r, mNotV_r, mNext_r, mIf_r, mSet_r, mOwn_r, mAny_r, mAsg_r, mRet_r, List.cons_append, List.nil_append, List.append_nil, ct, l2]
/-! ### the steps of a selector -/
structure LkS (l : List Stp) : Prop where
  s : ∀ s ∈ l, Sok1 s.2.1 s.2.2
  j : ∀ s ∈ l, Jok s.1
  z : (wrL l).length ≤ 100
/-- one turn -/
theorem turn_ex (NM S : List (List Nat)) (x0 : List Nat) (hN : ∀ m ∈ NM, Wd1 m) (lN : NM.length = 3) (hS : Sg S x0) (l : List Stp) (hl : LkS l) (hz : l.length ≤ 10) (k : Int) (x5 x6 x7 : Slot) (cs : List Int) (a b : Int) (ha : 0 ≤ a) : ∃ (j n : List Nat) (ms : List (List Nat)) (y5 y6 y7 : Slot) (cs' : List Int) (a' b' : Int), L__law_steps_1 [.st 2, .bor (.list (NM.map tS)), .bor (.list (S.map tS)), .own (.list (l.map enc)), .val (.int k), x5, x6, x7] (SW cs a b) = some (.nx [.st 2, .bor (.list (NM.map tS)), .bor (.list (S.map tS)), .own (.list ((if (wrL (l ++ [(j, n, ms)])).length ≤ 100 then l ++ [(j, n, ms)] else l).map enc)), .val (.int k), y5, y6, y7], SW cs' a' b') ∧ Sok1 n ms ∧ (0 < k → j = [32] ∨ j = [62]) ∧ (¬ 0 < k → j = []) ∧ n.length + (dots ms).length ≤ 60 ∧ 0 ≤ a' := by
  obtain ⟨n, ms, cs1, a1, b1, e1, h1, h2, ha1⟩ := step_ex NM S x0 hN lN hS cs a b ha
  have l1 : (0 + 1 : Nat) ≤ sizeLine := size_le (by decide)
  have l2 : (0 + 1 + 1 : Nat) ≤ sizeLine := size_le (by decide)
  have l3 : (0 + 1 + 1 + 1 : Nat) ≤ sizeLine := size_le (by decide)
  unfold L__law_steps_1
  rw [lit_A, lit_sp, lit_gt]
  rw [mseq_nx (ρ' := [.st 2, .bor (.list (NM.map tS)), .bor (.list (S.map tS)), .own (.list (l.map enc)), .val (.int k), .val (tS n), .val (.tuple (ms.map tS)), x7]) (w1 := SW cs1 a1 b1) (by
    rw [mAsg_r, mCall_eq (args := [.r 2, .d (.list (NM.map tS)), .d (.list (S.map tS))]) (w1 := SW cs a b) (by simp -implicitDefEqProofs only [eK_r, eV_0, eV_s, eB_0v, eB_0b, eB_0p, eB_0o, eB_s, eP_0v, eP_0b, eP_s, eS_0, eS_s, getS_0, getS_s, aNil_r, aCons_r, eOp_r, eUn_r, eCall_r, eBm_r, eTup_r, eLst_r, eIf_r, eAnd_r, eOr_r, eNot_r, eIs_r, eChain_r, eSl_r, oNo_r, oSo_r, asI_r, bT_r, bV_r, bYes_r, asB_r, truth_b, truth_l, truth_t, truth_n, truth_i, bAnd_r, bOr_r, bNot_r, oAdd_i, oSub_i, oNeg_i, oLt_i, oLe_i, oGt_i, oGe_i, cInt_i, cInt_b, cLen_l, cLen_t, cList_l, cList_t, cMax2_i, cMin2_i, cAbs_i, isT_int_i, isT_bool_i, isT_bool_b, isT_int_b, isT_tuple_t, isT_list_l, oEq_i, oNe_i, oEq_b, oNe_b, oIsN_n, oNotN_n, oIsN_i, oNotN_i, oIsB_b, oNotB_b, sSeqn_r, sNext_r, sBrk_r, sCnt_r, sRetN_r, sExpr_r, sRet_r, sRetOwn_r, sIf_r, sSet_r, sOwn_r, sAsg_r, gV_r, gT_r, gsNil_r, gsCons_r, sFz_r, sAug_r, addI_r, subI_r, sSeq_r, sArgs_r, itemsOf_l, itemsOf_t, sMut_r, fApp_r, Option.bind_some, Option.map_some, List.length_cons, List.length_nil, Nat.zero_add, Nat.reduceAdd, Nat.reduceLT, Nat.reduceLeDiff, List.set_cons_zero, List.set_cons_succ, if_true, Bool.false_eq_true, if_false, Bool.not_true, Bool.not_false, decide_true, decide_false, reduceCtorEq, unD_nil, unD_d, mL_r, mLB_r, mOp_r, mUn_r, mT_r, mV_r, mNot_r, mAndB_r, mOrB_r, mIte_r, maNil_r, maD_r, mF_r, mFK_r, mQ_r, mQR_r, mRv_0, mRv_s, mAndV_r, mOrV_r, mNotV_r, mNext_r, mIf_r, mSet_r, mOwn_r, mAny_r, mAsg_r, mRet_r, List.cons_append, List.nil_append, List.append_nil, maQ_r, mVq_s, mVq_0s]) e1]
    rfl)]
  rw [mseq_s (ρ' := [.st 2, .bor (.list (NM.map tS)), .bor (.list (S.map tS)), .own (.list (l.map enc)), .val (.int k), .val (tS n), .val (.tuple (ms.map tS)), .val (tS [])]) (by simp -implicitDefEqProofs only [eK_r, eV_0, eV_s, eB_0v, eB_0b, eB_0p, eB_0o, eB_s, eP_0v, eP_0b, eP_s, eS_0, eS_s, getS_0, getS_s, aNil_r, aCons_r, eOp_r, eUn_r, eCall_r, eBm_r, eTup_r, eLst_r, eIf_r, eAnd_r, eOr_r, eNot_r, eIs_r, eChain_r, eSl_r, oNo_r, oSo_r, asI_r, bT_r, bV_r, bYes_r, asB_r, truth_b, truth_l, truth_t, truth_n, truth_i, bAnd_r, bOr_r, bNot_r, oAdd_i, oSub_i, oNeg_i, oLt_i, oLe_i, oGt_i, oGe_i, cInt_i, cInt_b, cLen_l, cLen_t, cList_l, cList_t, cMax2_i, cMin2_i, cAbs_i, isT_int_i, isT_bool_i, isT_bool_b, isT_int_b, isT_tuple_t, isT_list_l, oEq_i, oNe_i, oEq_b, oNe_b, oIsN_n, oNotN_n, oIsN_i, oNotN_i, oIsB_b, oNotB_b, sSeqn_r, sNext_r, sBrk_r, sCnt_r, sRetN_r, sExpr_r, sRet_r, sRetOwn_r, sIf_r, sSet_r, sOwn_r, sAsg_r, gV_r, gT_r, gsNil_r, gsCons_r, sFz_r, sAug_r, addI_r, subI_r, sSeq_r, sArgs_r, itemsOf_l, itemsOf_t, sMut_r, fApp_r, Option.bind_some, Option.map_some, List.length_cons, List.length_nil, Nat.zero_add, Nat.reduceAdd, Nat.reduceLT, Nat.reduceLeDiff, List.set_cons_zero, List.set_cons_succ, if_true, Bool.false_eq_true, if_false, Bool.not_true, Bool.not_false, decide_true, decide_false, reduceCtorEq])]
  obtain ⟨j, cs2, a2, b2, ej, j1, j2, jk, ha2⟩ : ∃ (j : List Nat) (cs2 : List Int) (a2 b2 : Int), (mIf (mLB (bT (eOp oGt (eB 4) (eK (.int 0)))))
    (mSet 7 (mOp oIx (mL (eLst (aCons (eK (tS [32])) (aCons (eK (tS [62])) aNil)))) (mCall F__law_next (maQ (mVar 0) (maD (mL (eK (.int 2))) maNil)))))
    mNext) [.st 2, .bor (.list (NM.map tS)), .bor (.list (S.map tS)), .own (.list (l.map enc)), .val (.int k), .val (tS n), .val (.tuple (ms.map tS)), .val (tS [])] (SW cs1 a1 b1) = some (.nx [.st 2, .bor (.list (NM.map tS)), .bor (.list (S.map tS)), .own (.list (l.map enc)), .val (.int k), .val (tS n), .val (.tuple (ms.map tS)), .val (tS j)], SW cs2 a2 b2) ∧ (0 < k → j = [32] ∨ j = [62]) ∧ (¬ 0 < k → j = []) ∧ Jok j ∧ 0 ≤ a2 := by
    by_cases c : 0 < k
    · obtain ⟨d, cs2, a2, b2, e2, g1, g2, ha2⟩ := nx (q := mVar 0) (f := mL (eK (.int 2))) (ρ := [.st 2, .bor (.list (NM.map tS)), .bor (.list (S.map tS)), .own (.list (l.map enc)), .val (.int k), .val (tS n), .val (.tuple (ms.map tS)), .val (tS [])]) cs1 a1 b1 ha1 2 (by decide) (by decide) (fun _ => rfl) (fun _ => rfl)
      obtain ⟨x, hx, ex⟩ := pickT [[32], [62]] g1 (by show d < ((2 : Nat) : Int); omega)
      have ex : oIx (.list [tS [32], tS [62]]) (.int d) = some (tS x) := ex
      have hx2 : x = [32] ∨ x = [62] := by simpa using hx
      refine ⟨x, cs2, a2, b2, ?_, fun _ => hx2, fun z => absurd c z, .inr hx2, ha2⟩
      rw [mIf_t (w1 := SW cs1 a1 b1) (by simp -implicitDefEqProofs only [eK_r, eV_0, eV_s, eB_0v, eB_0b, eB_0p, eB_0o, eB_s, eP_0v, eP_0b, eP_s, eS_0, eS_s, getS_0, getS_s, aNil_r, aCons_r, eOp_r, eUn_r, eCall_r, eBm_r, eTup_r, eLst_r, eIf_r, eAnd_r, eOr_r, eNot_r, eIs_r, eChain_r, eSl_r, oNo_r, oSo_r, asI_r, bT_r, bV_r, bYes_r, asB_r, truth_b, truth_l, truth_t, truth_n, truth_i, bAnd_r, bOr_r, bNot_r, oAdd_i, oSub_i, oNeg_i, oLt_i, oLe_i, oGt_i, oGe_i, cInt_i, cInt_b, cLen_l, cLen_t, cList_l, cList_t, cMax2_i, cMin2_i, cAbs_i, isT_int_i, isT_bool_i, isT_bool_b, isT_int_b, isT_tuple_t, isT_list_l, oEq_i, oNe_i, oEq_b, oNe_b, oIsN_n, oNotN_n, oIsN_i, oNotN_i, oIsB_b, oNotB_b, sSeqn_r, sNext_r, sBrk_r, sCnt_r, sRetN_r, sExpr_r, sRet_r, sRetOwn_r, sIf_r, sSet_r, sOwn_r, sAsg_r, gV_r, gT_r, gsNil_r, gsCons_r, sFz_r, sAug_r, addI_r, subI_r, sSeq_r, sArgs_r, itemsOf_l, itemsOf_t, sMut_r, fApp_r, Option.bind_some, Option.map_some, List.length_cons, List.length_nil, Nat.zero_add, Nat.reduceAdd, Nat.reduceLT, Nat.reduceLeDiff, List.set_cons_zero, List.set_cons_succ, if_true, Bool.false_eq_true, if_false, Bool.not_true, Bool.not_false, decide_true, decide_false, reduceCtorEq, unD_nil, unD_d, mL_r, mLB_r, mOp_r, mUn_r, mT_r, mV_r, mNot_r, mAndB_r, mOrB_r, mIte_r, maNil_r, maD_r, mF_r, mFK_r, mQ_r, mQR_r, mRv_0, mRv_s, mAndV_r, mOrV_r, mNotV_r, mNext_r, mIf_r, mSet_r, mOwn_r, mAny_r, mAsg_r, mRet_r, List.cons_append, List.nil_append, List.append_nil, c])]
      simp -implicitDefEqProofs only [eK_r, eV_0, eV_s, eB_0v, eB_0b, eB_0p, eB_0o, eB_s, eP_0v, eP_0b, eP_s, eS_0, eS_s, getS_0, getS_s, aNil_r, aCons_r, eOp_r, eUn_r, eCall_r, eBm_r, eTup_r, eLst_r, eIf_r, eAnd_r, eOr_r, eNot_r, eIs_r, eChain_r, eSl_r, oNo_r, oSo_r, asI_r, bT_r, bV_r, bYes_r, asB_r, truth_b, truth_l, truth_t, truth_n, truth_i, bAnd_r, bOr_r, bNot_r, oAdd_i, oSub_i, oNeg_i, oLt_i, oLe_i, oGt_i, oGe_i, cInt_i, cInt_b, cLen_l, cLen_t, cList_l, cList_t, cMax2_i, cMin2_i, cAbs_i, isT_int_i, isT_bool_i, isT_bool_b, isT_int_b, isT_tuple_t, isT_list_l, oEq_i, oNe_i, oEq_b, oNe_b, oIsN_n, oNotN_n, oIsN_i, oNotN_i, oIsB_b, oNotB_b, sSeqn_r, sNext_r, sBrk_r, sCnt_r, sRetN_r, sExpr_r, sRet_r, sRetOwn_r, sIf_r, sSet_r, sOwn_r, sAsg_r, gV_r, gT_r, gsNil_r, gsCons_r, sFz_r, sAug_r, addI_r, subI_r, sSeq_r, sArgs_r, itemsOf_l, itemsOf_t, sMut_r, fApp_r, Option.bind_some, Option.map_some, List.length_cons, List.length_nil, Nat.zero_add, Nat.reduceAdd, Nat.reduceLT, Nat.reduceLeDiff, List.set_cons_zero, List.set_cons_succ, if_true, Bool.false_eq_true, if_false, Bool.not_true, Bool.not_false, decide_true, decide_false, reduceCtorEq, unD_nil, unD_d, mL_r, mLB_r, mOp_r, mUn_r, mT_r, mV_r, mNot_r, mAndB_r, mOrB_r, mIte_r, maNil_r, maD_r, mF_r, mFK_r, mQ_r, mQR_r, mRv_0, mRv_s, mAndV_r, mOrV_r, mNotV_r, mNext_r, mIf_r, mSet_r, mOwn_r, mAny_r, mAsg_r, mRet_r, List.cons_append, List.nil_append, List.append_nil, e2, l2, ex]
    · refine ⟨[], cs1, a1, b1, ?_, fun z => absurd z c, fun _ => rfl, .inl rfl, ha1⟩
      rw [mIf_f (w1 := SW cs1 a1 b1) (by simp -implicitDefEqProofs only [eK_r, eV_0, eV_s, eB_0v, eB_0b, eB_0p, eB_0o, eB_s, eP_0v, eP_0b, eP_s, eS_0, eS_s, getS_0, getS_s, aNil_r, aCons_r, eOp_r, eUn_r, eCall_r, eBm_r, eTup_r, eLst_r, eIf_r, eAnd_r, eOr_r, eNot_r, eIs_r, eChain_r, eSl_r, oNo_r, oSo_r, asI_r, bT_r, bV_r, bYes_r, asB_r, truth_b, truth_l, truth_t, truth_n, truth_i, bAnd_r, bOr_r, bNot_r, oAdd_i, oSub_i, oNeg_i, oLt_i, oLe_i, oGt_i, oGe_i, cInt_i, cInt_b, cLen_l, cLen_t, cList_l, cList_t, cMax2_i, cMin2_i, cAbs_i, isT_int_i, isT_bool_i, isT_bool_b, isT_int_b, isT_tuple_t, isT_list_l, oEq_i, oNe_i, oEq_b, oNe_b, oIsN_n, oNotN_n, oIsN_i, oNotN_i, oIsB_b, oNotB_b, sSeqn_r, sNext_r, sBrk_r, sCnt_r, sRetN_r, sExpr_r, sRet_r, sRetOwn_r, sIf_r, sSet_r, sOwn_r, sAsg_r, gV_r, gT_r, gsNil_r, gsCons_r, sFz_r, sAug_r, addI_r, subI_r, sSeq_r, sArgs_r, itemsOf_l, itemsOf_t, sMut_r, fApp_r, Option.bind_some, Option.map_some, List.length_cons, List.length_nil, Nat.zero_add, Nat.reduceAdd, Nat.reduceLT, Nat.reduceLeDiff, List.set_cons_zero, List.set_cons_succ, if_true, Bool.false_eq_true, if_false, Bool.not_true, Bool.not_false, decide_true, decide_false, reduceCtorEq, unD_nil, unD_d, mL_r, mLB_r, mOp_r, mUn_r, mT_r, mV_r, mNot_r, mAndB_r, mOrB_r, mIte_r, maNil_r, maD_r, mF_r, mFK_r, mQ_r, mQR_r, mRv_0, mRv_s, mAndV_r, mOrV_r, mNotV_r, mNext_r, mIf_r, mSet_r, mOwn_r, mAny_r, mAsg_r, mRet_r, List.cons_append, List.nil_append, List.append_nil, c])]
      rfl
  rw [mseq_nx ej]
  refine ⟨j, n, ms, .val (tS n), .val (.tuple (ms.map tS)), .val (tS j), cs2, a2, b2, ?_, h1, j1, j2, h2, ha2⟩
  have me : (l ++ [(j, n, ms)]).map enc = l.map enc ++ [.tuple [tS j, tS n, .tuple (ms.map tS)]] := by rw [List.map_append]; rfl
  have jl : (jL j).length ≤ 3 := by rcases jk with e | e | e <;> rw [e] <;> decide
  have wl : (wrL (l ++ [(j, n, ms)])).length ≤ 200 := by
    rw [wrL_app, wrL_cons]
    unfold swL
    simp only [List.length_append]
    rw [show wrL [] = [] from rfl]
    have := hl.z
    simp only [List.length_nil]
    omega
  have wr := written_eq (l ++ [(j, n, ms)]) (fun s hs => by
    rcases List.mem_append.mp hs with hs | hs
    · exact hl.j s hs
    · rw [List.mem_singleton.mp hs]; exact jk) (by omega)
  have cl := tLen (wrL (l ++ [(j, n, ms)])) (by omega)
  have ad : oAdd (.list (l.map enc)) (.list [.tuple [tS j, tS n, .tuple (ms.map tS)]]) = some (.list (l.map enc ++ [.tuple [tS j, tS n, .tuple (ms.map tS)]])) := by
    unfold oAdd
    simp only []
    rw [if_pos (size_le (by rw [List.length_map]; simp only [List.length_cons, List.length_nil]; omega))]
  have la : (l.map enc).length < sizeLine := by rw [List.length_map, sizeLine_eq]; omega
  rw [me] at wr
  by_cases c : (wrL (l ++ [(j, n, ms)])).length ≤ 100
  · rw [if_pos c, me]
    rw [mIf_t (w1 := SW cs2 a2 b2) (by simp -implicitDefEqProofs only [eK_r, eV_0, eV_s, eB_0v, eB_0b, eB_0p, eB_0o, eB_s, eP_0v, eP_0b, eP_s, eS_0, eS_s, getS_0, getS_s, aNil_r, aCons_r, eOp_r, eUn_r, eCall_r, eBm_r, eTup_r, eLst_r, eIf_r, eAnd_r, eOr_r, eNot_r, eIs_r, eChain_r, eSl_r, oNo_r, oSo_r, asI_r, bT_r, bV_r, bYes_r, asB_r, truth_b, truth_l, truth_t, truth_n, truth_i, bAnd_r, bOr_r, bNot_r, oAdd_i, oSub_i, oNeg_i, oLt_i, oLe_i, oGt_i, oGe_i, cInt_i, cInt_b, cLen_l, cLen_t, cList_l, cList_t, cMax2_i, cMin2_i, cAbs_i, isT_int_i, isT_bool_i, isT_bool_b, isT_int_b, isT_tuple_t, isT_list_l, oEq_i, oNe_i, oEq_b, oNe_b, oIsN_n, oNotN_n, oIsN_i, oNotN_i, oIsB_b, oNotB_b, sSeqn_r, sNext_r, sBrk_r, sCnt_r, sRetN_r, sExpr_r, sRet_r, sRetOwn_r, sIf_r, sSet_r, sOwn_r, sAsg_r, gV_r, gT_r, gsNil_r, gsCons_r, sFz_r, sAug_r, addI_r, subI_r, sSeq_r, sArgs_r, itemsOf_l, itemsOf_t, sMut_r, fApp_r, Option.bind_some, Option.map_some, List.length_cons, List.length_nil, Nat.zero_add, Nat.reduceAdd, Nat.reduceLT, Nat.reduceLeDiff, List.set_cons_zero, List.set_cons_succ, if_true, Bool.false_eq_true, if_false, Bool.not_true, Bool.not_false, decide_true, decide_false, reduceCtorEq, unD_nil, unD_d, mL_r, mLB_r, mOp_r, mUn_r, mT_r, mV_r, mNot_r, mAndB_r, mOrB_r, mIte_r, maNil_r, maD_r, mF_r, mFK_r, mQ_r, mQR_r, mRv_0, mRv_s, mAndV_r, mOrV_r, mNotV_r, mNext_r, mIf_r, mSet_r, mOwn_r, mAny_r, mAsg_r, mRet_r, List.cons_append, List.nil_append, List.append_nil, l1, l3, ad, wr, cl, show (((wrL (l ++ [(j, n, ms)])).length : Nat) : Int) ≤ 100 ↔ True from iff_true_intro (by omega)])]
    exact mS_nx (by simp -implicitDefEqProofs only [eK_r, eV_0, eV_s, eB_0v, eB_0b, eB_0p, eB_0o, eB_s, eP_0v, eP_0b, eP_s, eS_0, eS_s, getS_0, getS_s, aNil_r, aCons_r, eOp_r, eUn_r, eCall_r, eBm_r, eTup_r, eLst_r, eIf_r, eAnd_r, eOr_r, eNot_r, eIs_r, eChain_r, eSl_r, oNo_r, oSo_r, asI_r, bT_r, bV_r, bYes_r, asB_r, truth_b, truth_l, truth_t, truth_n, truth_i, bAnd_r, bOr_r, bNot_r, oAdd_i, oSub_i, oNeg_i, oLt_i, oLe_i, oGt_i, oGe_i, cInt_i, cInt_b, cLen_l, cLen_t, cList_l, cList_t, cMax2_i, cMin2_i, cAbs_i, isT_int_i, isT_bool_i, isT_bool_b, isT_int_b, isT_tuple_t, isT_list_l, oEq_i, oNe_i, oEq_b, oNe_b, oIsN_n, oNotN_n, oIsN_i, oNotN_i, oIsB_b, oNotB_b, sSeqn_r, sNext_r, sBrk_r, sCnt_r, sRetN_r, sExpr_r, sRet_r, sRetOwn_r, sIf_r, sSet_r, sOwn_r, sAsg_r, gV_r, gT_r, gsNil_r, gsCons_r, sFz_r, sAug_r, addI_r, subI_r, sSeq_r, sArgs_r, itemsOf_l, itemsOf_t, sMut_r, fApp_r, Option.bind_some, Option.map_some, List.length_cons, List.length_nil, Nat.zero_add, Nat.reduceAdd, Nat.reduceLT, Nat.reduceLeDiff, List.set_cons_zero, List.set_cons_succ, if_true, Bool.false_eq_true, if_false, Bool.not_true, Bool.not_false, decide_true, decide_false, reduceCtorEq, l3, la])
  · rw [if_neg c]
    rw [mIf_f (w1 := SW cs2 a2 b2) (by simp -implicitDefEqProofs only [eK_r, eV_0, eV_s, eB_0v, eB_0b, eB_0p, eB_0o, eB_s, eP_0v, eP_0b, eP_s, eS_0, eS_s, getS_0, getS_s, aNil_r, aCons_r, eOp_r, eUn_r, eCall_r, eBm_r, eTup_r, eLst_r, eIf_r, eAnd_r, eOr_r, eNot_r, eIs_r, eChain_r, eSl_r, oNo_r, oSo_r, asI_r, bT_r, bV_r, bYes_r, asB_r, truth_b, truth_l, truth_t, truth_n, truth_i, bAnd_r, bOr_r, bNot_r, oAdd_i, oSub_i, oNeg_i, oLt_i, oLe_i, oGt_i, oGe_i, cInt_i, cInt_b, cLen_l, cLen_t, cList_l, cList_t, cMax2_i, cMin2_i, cAbs_i, isT_int_i, isT_bool_i, isT_bool_b, isT_int_b, isT_tuple_t, isT_list_l, oEq_i, oNe_i, oEq_b, oNe_b, oIsN_n, oNotN_n, oIsN_i, oNotN_i, oIsB_b, oNotB_b, sSeqn_r, sNext_r, sBrk_r, sCnt_r, sRetN_r, sExpr_r, sRet_r, sRetOwn_r, sIf_r, sSet_r, sOwn_r, sAsg_r, gV_r, gT_r, gsNil_r, gsCons_r, sFz_r, sAug_r, addI_r, subI_r, sSeq_r, sArgs_r, itemsOf_l, itemsOf_t, sMut_r, fApp_r, Option.bind_some, Option.map_some, List.length_cons, List.length_nil, Nat.zero_add, Nat.reduceAdd, Nat.reduceLT, Nat.reduceLeDiff, List.set_cons_zero, List.set_cons_succ, if_true, Bool.false_eq_true, if_false, Bool.not_true, Bool.not_false, decide_true, decide_false, reduceCtorEq, unD_nil, unD_d, mL_r, mLB_r, mOp_r, mUn_r, mT_r, mV_r, mNot_r, mAndB_r, mOrB_r, mIte_r, maNil_r, maD_r, mF_r, mFK_r, mQ_r, mQR_r, mRv_0, mRv_s, mAndV_r, mOrV_r, mNotV_r, mNext_r, mIf_r, mSet_r, mOwn_r, mAny_r, mAsg_r, mRet_r, List.cons_append, List.nil_append, List.append_nil, l1, l3, ad, wr, cl, show (((wrL (l ++ [(j, n, ms)])).length : Nat) : Int) ≤ 100 ↔ False from iff_false_intro (by omega)])]
    rfl
theorem lk_app {l : List Stp} (hl : LkS l) {j n : List Nat} {ms : List (List Nat)} (h : Sok1 n ms) (hj : Jok j) (hz : (wrL (l ++ [(j, n, ms)])).length ≤ 100) : LkS (l ++ [(j, n, ms)]) := ⟨fun s hs => by
  rcases List.mem_append.mp hs with hs | hs
  · exact hl.s s hs
  · rw [List.mem_singleton.mp hs]; exact h, fun s hs => by
  rcases List.mem_append.mp hs with hs | hs
  · exact hl.j s hs
  · rw [List.mem_singleton.mp hs]; exact hj, hz⟩
/-- the turns behind the first -/
theorem turnsGo (NM S : List (List Nat)) (x0 : List Nat) (hN : ∀ m ∈ NM, Wd1 m) (lN : NM.length = 3) (hS : Sg S x0) : ∀ (ks : List Int) (s : Stp) (l : List Stp) (x4 x5 x6 x7 : Slot) (cs : List Int) (a b : Int), 0 ≤ a → (∀ k ∈ ks, 0 < k) → LkS (s :: l) → (∀ z ∈ l, z.1 = [32] ∨ z.1 = [62]) → l.length + ks.length ≤ 3 → ∃ (l' : List Stp) (y4 y5 y6 y7 : Slot) (cs' : List Int) (a' b' : Int), mForGo (gV 4) L__law_steps_1 (ks.map .int) [.st 2, .bor (.list (NM.map tS)), .bor (.list (S.map tS)), .own (.list ((s :: l).map enc)), x4, x5, x6, x7] (SW cs a b) = some (.nx [.st 2, .bor (.list (NM.map tS)), .bor (.list (S.map tS)), .own (.list ((s :: l').map enc)), y4, y5, y6, y7], SW cs' a' b') ∧ LkS (s :: l') ∧ (∀ z ∈ l', z.1 = [32] ∨ z.1 = [62]) ∧ l'.length ≤ 3 ∧ 0 ≤ a'
  | [], s, l, x4, x5, x6, x7, cs, a, b, ha, _, h1, h2, h3 => ⟨l, x4, x5, x6, x7, cs, a, b, rfl, h1, h2, by simpa using h3, ha⟩
  | k :: ks, s, l, x4, x5, x6, x7, cs, a, b, ha, hk, h1, h2, h3 => by
    rw [List.length_cons] at h3
    obtain ⟨j, n, ms, y5, y6, y7, cs1, a1, b1, e1, g1, g2, g3, g4, ha1⟩ := turn_ex NM S x0 hN lN hS (s :: l) h1 (by rw [List.length_cons]; omega) k x5 x6 x7 cs a b ha
    have gj := g2 (hk k List.mem_cons_self)
    have next : ∀ l2 : List Stp, (if (wrL (s :: l ++ [(j, n, ms)])).length ≤ 100 then s :: l ++ [(j, n, ms)] else s :: l) = s :: l2 → LkS (s :: l2) → (∀ z ∈ l2, z.1 = [32] ∨ z.1 = [62]) → l2.length ≤ l.length + 1 → _ := fun l2 e q1 q2 q3 => turnsGo NM S x0 hN lN hS ks s l2 (.val (.int k)) y5 y6 y7 cs1 a1 b1 ha1 (fun z hz => hk z (List.mem_cons_of_mem _ hz)) q1 q2 (by omega)
    by_cases c : (wrL (s :: l ++ [(j, n, ms)])).length ≤ 100
    · obtain ⟨l', z4, z5, z6, z7, cs', a', b', e2, q⟩ := next (l ++ [(j, n, ms)]) (if_pos c) (lk_app h1 g1 (.inr gj) c) (fun z hz => by
        rcases List.mem_append.mp hz with hz | hz
        · exact h2 z hz
        · rw [List.mem_singleton.mp hz]; exact gj) (by rw [List.length_append]; simp)
      refine ⟨l', z4, z5, z6, z7, cs', a', b', ?_, q⟩
      rw [if_pos c] at e1
      rw [List.map_cons, mForGo_one (ρ1 := [.st 2, .bor (.list (NM.map tS)), .bor (.list (S.map tS)), .own (.list ((s :: l).map enc)), .val (.int k), x5, x6, x7]) rfl e1]
      exact e2
    · obtain ⟨l', z4, z5, z6, z7, cs', a', b', e2, q⟩ := next l (if_neg c) h1 h2 (by omega)
      refine ⟨l', z4, z5, z6, z7, cs', a', b', ?_, q⟩
      rw [if_neg c] at e1
      rw [List.map_cons, mForGo_one (ρ1 := [.st 2, .bor (.list (NM.map tS)), .bor (.list (S.map tS)), .own (.list ((s :: l).map enc)), .val (.int k), x5, x6, x7]) rfl e1]
      exact e2
theorem steps_ex (NM S : List (List Nat)) (x0 : List Nat) (hN : ∀ m ∈ NM, Wd1 m) (lN : NM.length = 3) (hS : Sg S x0) (cs : List Int) (a b : Int) (ha : 0 ≤ a) : ∃ (s : Stp) (l : List Stp) (cs' : List Int) (a' b' : Int), F__law_steps [.r 2, .d (.list (NM.map tS)), .d (.list (S.map tS))] (SW cs a b) = some (.d (.list ((s :: l).map enc)), SW cs' a' b') ∧ LkS (s :: l) ∧ s.1 = [] ∧ (∀ z ∈ l, z.1 = [32] ∨ z.1 = [62]) ∧ l.length ≤ 3 ∧ 0 ≤ a' := by
  suffices h : ∃ (s : Stp) (l : List Stp) (cs' : List Int) (a' b' : Int), B__law_steps [.st 2, .bor (.list (NM.map tS)), .bor (.list (S.map tS)), .un, .un, .un, .un, .un] (SW cs a b) = some (.rt (.d (.list ((s :: l).map enc))), SW cs' a' b') ∧ LkS (s :: l) ∧ s.1 = [] ∧ (∀ z ∈ l, z.1 = [32] ∨ z.1 = [62]) ∧ l.length ≤ 3 ∧ 0 ≤ a' by
    obtain ⟨s, l, cs', a', b', e, h2⟩ := h
    exact ⟨s, l, cs', a', b', boxW_rt rfl e, h2⟩
  have l0 : (0 : Nat) ≤ sizeLine := Nat.zero_le _
  unfold B__law_steps
  rw [mseq_s (ρ' := [.st 2, .bor (.list (NM.map tS)), .bor (.list (S.map tS)), .own (.list []), .un, .un, .un, .un]) (by simp -implicitDefEqProofs only [eK_r, eV_0, eV_s, eB_0v, eB_0b, eB_0p, eB_0o, eB_s, eP_0v, eP_0b, eP_s, eS_0, eS_s, getS_0, getS_s, aNil_r, aCons_r, eOp_r, eUn_r, eCall_r, eBm_r, eTup_r, eLst_r, eIf_r, eAnd_r, eOr_r, eNot_r, eIs_r, eChain_r, eSl_r, oNo_r, oSo_r, asI_r, bT_r, bV_r, bYes_r, asB_r, truth_b, truth_l, truth_t, truth_n, truth_i, bAnd_r, bOr_r, bNot_r, oAdd_i, oSub_i, oNeg_i, oLt_i, oLe_i, oGt_i, oGe_i, cInt_i, cInt_b, cLen_l, cLen_t, cList_l, cList_t, cMax2_i, cMin2_i, cAbs_i, isT_int_i, isT_bool_i, isT_bool_b, isT_int_b, isT_tuple_t, isT_list_l, oEq_i, oNe_i, oEq_b, oNe_b, oIsN_n, oNotN_n, oIsN_i, oNotN_i, oIsB_b, oNotB_b, sSeqn_r, sNext_r, sBrk_r, sCnt_r, sRetN_r, sExpr_r, sRet_r, sRetOwn_r, sIf_r, sSet_r, sOwn_r, sAsg_r, gV_r, gT_r, gsNil_r, gsCons_r, sFz_r, sAug_r, addI_r, subI_r, sSeq_r, sArgs_r, itemsOf_l, itemsOf_t, sMut_r, fApp_r, Option.bind_some, Option.map_some, List.length_cons, List.length_nil, Nat.zero_add, Nat.reduceAdd, Nat.reduceLT, Nat.reduceLeDiff, List.set_cons_zero, List.set_cons_succ, if_true, Bool.false_eq_true, if_false, Bool.not_true, Bool.not_false, decide_true, decide_false, reduceCtorEq, l0])]
  obtain ⟨d, cs1, a1, b1, e1, g1, g2, ha1⟩ := nx (q := mVar 0) (f := mL (eK (.int 4))) (ρ := [.st 2, .bor (.list (NM.map tS)), .bor (.list (S.map tS)), .own (.list []), .un, .un, .un, .un]) cs a b ha 4 (by decide) (by decide) (fun _ => rfl) (fun _ => rfl)
  obtain ⟨m, rfl⟩ := Int.eq_ofNat_of_zero_le g1
  have hr : rng1 [.int (1 + (m : Nat))] = some (rangeD 0 (m + 1)) := by
    rw [rng1_r (by omega) (by omega), show (1 + ((m : Nat) : Int)).toNat = m + 1 by omega]
  have er : rangeD 0 (m + 1) = ((0 : Int) :: (List.range m).map fun i => ((i + 1 : Nat) : Int)).map PyData.int := by
    unfold rangeD
    rw [List.range_succ_eq_map, List.map_cons, List.map_map, List.map_cons, List.map_map]
    refine congrArg (List.cons (PyData.int 0)) (List.map_congr_left fun i _ => ?_)
    show PyData.int (0 + ((i + 1 : Nat) : Int)) = .int ((i + 1 : Nat) : Int)
    rw [Int.zero_add]
  obtain ⟨j, n, ms, y5, y6, y7, cs2, a2, b2, e2, h1, h2, h3, h4, ha2⟩ := turn_ex NM S x0 hN lN hS [] ⟨fun s hs => (by cases hs), fun s hs => (by cases hs), by decide⟩ (by simp) 0 .un .un .un cs1 a1 b1 ha1
  have hj : j = [] := h3 (by omega)
  subst hj
  have w1 : (wrL [(([] : List Nat), n, ms)]).length ≤ 100 := by
    rw [wrL_cons]
    unfold swL jL
    simp only [List.length_append]
    rw [show wrL [] = [] from rfl]
    simp only [List.length_nil]
    have e : (if ([] : List Nat) = [62] then [32, 62, 32] else ([] : List Nat)) = [] := if_neg (by simp)
    rw [e]
    simp only [List.length_nil]
    omega
  rw [List.nil_append, if_pos w1] at e2
  obtain ⟨l, y4, z5, z6, z7, cs3, a3, b3, e3, q1, q2, q3, ha3⟩ := turnsGo NM S x0 hN lN hS ((List.range m).map fun i => ((i + 1 : Nat) : Int)) ([], n, ms) [] (.val (.int 0)) y5 y6 y7 cs2 a2 b2 ha2 (fun k hk => by
    obtain ⟨i, _, rfl⟩ := List.mem_map.mp hk
    omega) ⟨fun s hs => by rw [List.mem_singleton.mp hs]; exact h1, fun s hs => by rw [List.mem_singleton.mp hs]; exact .inl rfl, w1⟩ (fun z hz => by cases hz) (by rw [List.length_map, List.length_range]; simp only [List.length_nil]; omega)
  have lp : mForGo (gV 4) L__law_steps_1 (rangeD 0 (m + 1)) [.st 2, .bor (.list (NM.map tS)), .bor (.list (S.map tS)), .own (.list []), .un, .un, .un, .un] (SW cs1 a1 b1) = some (.nx [.st 2, .bor (.list (NM.map tS)), .bor (.list (S.map tS)), .own (.list ((([], n, ms) :: l : List Stp).map enc)), y4, z5, z6, z7], SW cs3 a3 b3) := by
    rw [er, List.map_cons, mForGo_one (ρ1 := [.st 2, .bor (.list (NM.map tS)), .bor (.list (S.map tS)), .own (.list []), .val (.int 0), .un, .un, .un]) rfl e2]
    exact e3
  refine ⟨([], n, ms), l, cs3, a3, b3, ?_, q1, rfl, q2, q3, ha3⟩
  rw [mseq_nx ((mFor_eq (w1 := SW cs1 a1 b1) (mArgsI_eq (l := [.d (.int (1 + (m : Nat)))]) (w1 := SW cs1 a1 b1) (by simp -implicitDefEqProofs only [eK_r, eV_0, eV_s, eB_0v, eB_0b, eB_0p, eB_0o, eB_s, eP_0v, eP_0b, eP_s, eS_0, eS_s, getS_0, getS_s, aNil_r, aCons_r, eOp_r, eUn_r, eCall_r, eBm_r, eTup_r, eLst_r, eIf_r, eAnd_r, eOr_r, eNot_r, eIs_r, eChain_r, eSl_r, oNo_r, oSo_r, asI_r, bT_r, bV_r, bYes_r, asB_r, truth_b, truth_l, truth_t, truth_n, truth_i, bAnd_r, bOr_r, bNot_r, oAdd_i, oSub_i, oNeg_i, oLt_i, oLe_i, oGt_i, oGe_i, cInt_i, cInt_b, cLen_l, cLen_t, cList_l, cList_t, cMax2_i, cMin2_i, cAbs_i, isT_int_i, isT_bool_i, isT_bool_b, isT_int_b, isT_tuple_t, isT_list_l, oEq_i, oNe_i, oEq_b, oNe_b, oIsN_n, oNotN_n, oIsN_i, oNotN_i, oIsB_b, oNotB_b, sSeqn_r, sNext_r, sBrk_r, sCnt_r, sRetN_r, sExpr_r, sRet_r, sRetOwn_r, sIf_r, sSet_r, sOwn_r, sAsg_r, gV_r, gT_r, gsNil_r, gsCons_r, sFz_r, sAug_r, addI_r, subI_r, sSeq_r, sArgs_r, itemsOf_l, itemsOf_t, sMut_r, fApp_r, Option.bind_some, Option.map_some, List.length_cons, List.length_nil, Nat.zero_add, Nat.reduceAdd, Nat.reduceLT, Nat.reduceLeDiff, List.set_cons_zero, List.set_cons_succ, if_true, Bool.false_eq_true, if_false, Bool.not_true, Bool.not_false, decide_true, decide_false, reduceCtorEq, unD_nil, unD_d, mL_r, mLB_r, mOp_r, mUn_r, mT_r, mV_r, mNot_r, mAndB_r, mOrB_r, mIte_r, maNil_r, maD_r, mF_r, mFK_r, mQ_r, mQR_r, mRv_0, mRv_s, mAndV_r, mOrV_r, mNotV_r, mNext_r, mIf_r, mSet_r, mOwn_r, mAny_r, mAsg_r, mRet_r, List.cons_append, List.nil_append, List.append_nil, e1]) hr)).trans lp)]
  rfl
/-! ### the law -/
theorem kinds_ok : ∀ m ∈ ([[120], [121, 121], [98], [99, 99], [100], [101], [102]] : List (List Nat)), (1 ≤ m.length ∧ m.length ≤ 12 ∧ ∀ c ∈ m, 97 ≤ c ∧ c ≤ 122) ∧ m.length ≤ 2 := by decide +kernel
theorem names2_ok : ∀ m ∈ ([[97], [112, 97, 103, 101]] : List (List Nat)), 1 ≤ m.length ∧ m.length ≤ 12 ∧ ∀ c ∈ m, 97 ≤ c ∧ c ≤ 122 := by decide +kernel
theorem isint_eq (i : Int) : F__law_is_integer [.int i] = some (.bool true) := by
  refine box_rt rfl ?_
  show B__law_is_integer [.bor (.int i)] = _
  unfold B__law_is_integer
  simp -implicitDefEqProofs only [eK_r, eV_0, eV_s, eB_0v, eB_0b, eB_0p, eB_0o, eB_s, eP_0v, eP_0b, eP_s, eS_0, eS_s, getS_0, getS_s, aNil_r, aCons_r, eOp_r, eUn_r, eCall_r, eBm_r, eTup_r, eLst_r, eIf_r, eAnd_r, eOr_r, eNot_r, eIs_r, eChain_r, eSl_r, oNo_r, oSo_r, asI_r, bT_r, bV_r, bYes_r, asB_r, truth_b, truth_l, truth_t, truth_n, truth_i, bAnd_r, bOr_r, bNot_r, oAdd_i, oSub_i, oNeg_i, oLt_i, oLe_i, oGt_i, oGe_i, cInt_i, cInt_b, cLen_l, cLen_t, cList_l, cList_t, cMax2_i, cMin2_i, cAbs_i, isT_int_i, isT_bool_i, isT_bool_b, isT_int_b, isT_tuple_t, isT_list_l, oEq_i, oNe_i, oEq_b, oNe_b, oIsN_n, oNotN_n, oIsN_i, oNotN_i, oIsB_b, oNotB_b, sSeqn_r, sNext_r, sBrk_r, sCnt_r, sRetN_r, sExpr_r, sRet_r, sRetOwn_r, sIf_r, sSet_r, sOwn_r, sAsg_r, gV_r, gT_r, gsNil_r, gsCons_r, sFz_r, sAug_r, addI_r, subI_r, sSeq_r, sArgs_r, itemsOf_l, itemsOf_t, sMut_r, fApp_r, Option.bind_some, Option.map_some, List.length_cons, List.length_nil, Nat.zero_add, Nat.reduceAdd, Nat.reduceLT, Nat.reduceLeDiff, List.set_cons_zero, List.set_cons_succ, if_true, Bool.false_eq_true, if_false, Bool.not_true, Bool.not_false, decide_true, decide_false, reduceCtorEq]
theorem ne_two (a b : Int) : oNe (.tuple [.int a, .int b]) (.tuple [.int a, .int b]) = some (.bool false) := oNe_self (by rfl)
theorem eq_two (a b : Int) : oEq (.tuple [.int a, .int b]) (.tuple [.int a, .int b]) = some (.bool true) := oEq_self (by rfl)
theorem law_true (ns : List Int) (hl : ns.length ≤ 63) (hb : ∀ z ∈ ns, Builtin.Int.intBits z ≤ 1048576) : ∃ w, F_law [.d (.list (ns.map .int))] [.tab "is_word"] = some (.d (.bool true), w) := by
  have l0 : (0 : Nat) ≤ sizeLine := Nat.zero_le _
  have l1 : (0 + 1 : Nat) ≤ sizeLine := size_le (by decide)
  have l2 : (0 + 1 + 1 : Nat) ≤ sizeLine := size_le (by decide)
  have l3 : (0 + 1 + 1 + 1 : Nat) ≤ sizeLine := size_le (by decide)
  have l8 : (0 + 1 + 1 + 1 + 1 + 1 + 1 + 1 + 1 : Nat) ≤ sizeLine := size_le (by decide)
  have SWe : ([.tab "is_word", .lst ((ns.map PyData.int).map .d), .lst [.r 1, .d (.int 0), .d (.int 1)]] : Wd) = SW ns 0 1 := by
    rw [List.map_map]; rfl
  have mk : mMk (mL (eCall cList (aCons (eS 0) aNil))) [.scr (.list (ns.map .int)), .un, .un, .un, .un, .un, .un, .un, .un] [.tab "is_word"] = some (1, [.tab "is_word", .lst ((ns.map PyData.int).map .d)]) := mMk_eq (w1 := [.tab "is_word"]) (by simp -implicitDefEqProofs only [eK_r, eV_0, eV_s, eB_0v, eB_0b, eB_0p, eB_0o, eB_s, eP_0v, eP_0b, eP_s, eS_0, eS_s, getS_0, getS_s, aNil_r, aCons_r, eOp_r, eUn_r, eCall_r, eBm_r, eTup_r, eLst_r, eIf_r, eAnd_r, eOr_r, eNot_r, eIs_r, eChain_r, eSl_r, oNo_r, oSo_r, asI_r, bT_r, bV_r, bYes_r, asB_r, truth_b, truth_l, truth_t, truth_n, truth_i, bAnd_r, bOr_r, bNot_r, oAdd_i, oSub_i, oNeg_i, oLt_i, oLe_i, oGt_i, oGe_i, cInt_i, cInt_b, cLen_l, cLen_t, cList_l, cList_t, cMax2_i, cMin2_i, cAbs_i, isT_int_i, isT_bool_i, isT_bool_b, isT_int_b, isT_tuple_t, isT_list_l, oEq_i, oNe_i, oEq_b, oNe_b, oIsN_n, oNotN_n, oIsN_i, oNotN_i, oIsB_b, oNotB_b, sSeqn_r, sNext_r, sBrk_r, sCnt_r, sRetN_r, sExpr_r, sRet_r, sRetOwn_r, sIf_r, sSet_r, sOwn_r, sAsg_r, gV_r, gT_r, gsNil_r, gsCons_r, sFz_r, sAug_r, addI_r, subI_r, sSeq_r, sArgs_r, itemsOf_l, itemsOf_t, sMut_r, fApp_r, Option.bind_some, Option.map_some, List.length_cons, List.length_nil, Nat.zero_add, Nat.reduceAdd, Nat.reduceLT, Nat.reduceLeDiff, List.set_cons_zero, List.set_cons_succ, if_true, Bool.false_eq_true, if_false, Bool.not_true, Bool.not_false, decide_true, decide_false, reduceCtorEq, unD_nil, unD_d, mL_r, mLB_r, mOp_r, mUn_r, mT_r, mV_r, mNot_r, mAndB_r, mOrB_r, mIte_r, maNil_r, maD_r, mF_r, mFK_r, mQ_r, mQR_r, mRv_0, mRv_s, mAndV_r, mOrV_r, mNotV_r, mNext_r, mIf_r, mSet_r, mOwn_r, mAny_r, mAsg_r, mRet_r, List.cons_append, List.nil_append, List.append_nil])
  generalize PyData.list (ns.map .int) = S at *
  have nl : mNewL (maQ (mQR (mMk (mL (eCall cList (aCons (eS 0) aNil))))) (maQ (mQ (mL (eK (.int 0)))) (maQ (mQ (mL (eK (.int 1)))) maNil))) [.scr S, .un, .un, .un, .un, .un, .un, .un, .un] [.tab "is_word"] = some (2, SW ns 0 1) := by
    rw [← SWe]
    exact mNewL_eq (l := [.r 1, .d (.int 0), .d (.int 1)]) (w1 := [.tab "is_word", .lst ((ns.map PyData.int).map .d)]) (by simp -implicitDefEqProofs only [eK_r, eV_0, eV_s, eB_0v, eB_0b, eB_0p, eB_0o, eB_s, eP_0v, eP_0b, eP_s, eS_0, eS_s, getS_0, getS_s, aNil_r, aCons_r, eOp_r, eUn_r, eCall_r, eBm_r, eTup_r, eLst_r, eIf_r, eAnd_r, eOr_r, eNot_r, eIs_r, eChain_r, eSl_r, oNo_r, oSo_r, asI_r, bT_r, bV_r, bYes_r, asB_r, truth_b, truth_l, truth_t, truth_n, truth_i, bAnd_r, bOr_r, bNot_r, oAdd_i, oSub_i, oNeg_i, oLt_i, oLe_i, oGt_i, oGe_i, cInt_i, cInt_b, cLen_l, cLen_t, cList_l, cList_t, cMax2_i, cMin2_i, cAbs_i, isT_int_i, isT_bool_i, isT_bool_b, isT_int_b, isT_tuple_t, isT_list_l, oEq_i, oNe_i, oEq_b, oNe_b, oIsN_n, oNotN_n, oIsN_i, oNotN_i, oIsB_b, oNotB_b, sSeqn_r, sNext_r, sBrk_r, sCnt_r, sRetN_r, sExpr_r, sRet_r, sRetOwn_r, sIf_r, sSet_r, sOwn_r, sAsg_r, gV_r, gT_r, gsNil_r, gsCons_r, sFz_r, sAug_r, addI_r, subI_r, sSeq_r, sArgs_r, itemsOf_l, itemsOf_t, sMut_r, fApp_r, Option.bind_some, Option.map_some, List.length_cons, List.length_nil, Nat.zero_add, Nat.reduceAdd, Nat.reduceLT, Nat.reduceLeDiff, List.set_cons_zero, List.set_cons_succ, if_true, Bool.false_eq_true, if_false, Bool.not_true, Bool.not_false, decide_true, decide_false, reduceCtorEq, unD_nil, unD_d, mL_r, mLB_r, mOp_r, mUn_r, mT_r, mV_r, mNot_r, mAndB_r, mOrB_r, mIte_r, maNil_r, maD_r, mF_r, mFK_r, mQ_r, mQR_r, mRv_0, mRv_s, mAndV_r, mOrV_r, mNotV_r, mNext_r, mIf_r, mSet_r, mOwn_r, mAny_r, mAsg_r, mRet_r, List.cons_append, List.nil_append, List.append_nil, maQ_r, mk]) (by simp)
  obtain ⟨n0, cs1, a1, b1, e1, h1, ha1⟩ := word_ex ns 0 1 (by decide)
  obtain ⟨x0, cs2, a2, b2, e2, h2, ha2⟩ := word_ex cs1 a1 b1 ha1
  have hN : ∀ m ∈ ([n0, [97], [112, 97, 103, 101]] : List (List Nat)), Wd1 m := fun m hm => by
    rcases List.mem_cons.mp hm with rfl | hm
    · exact h1
    · obtain ⟨q1, q2, q3⟩ := names2_ok m hm
      exact ⟨q1, q2, q3⟩
  have hS : Sg [x0, [120], [121, 121], [98], [99, 99], [100], [101], [102]] x0 := ⟨fun m hm => by
    rcases List.mem_cons.mp hm with rfl | hm
    · exact h2
    · obtain ⟨⟨q1, q2, q3⟩, _⟩ := kinds_ok m hm
      exact ⟨q1, q2, q3⟩, fun m hm => by
    rcases List.mem_cons.mp hm with rfl | hm
    · exact .inl rfl
    · exact .inr (kinds_ok m hm).2, rfl, h2.hi⟩
  obtain ⟨s, l, cs3, a3, b3, e3, g1, g2, g3, g4, ha3⟩ := steps_ex [n0, [97], [112, 97, 103, 101]] [x0, [120], [121, 121], [98], [99, 99], [100], [101], [102]] x0 hN rfl hS cs2 a2 b2 ha2
  obtain ⟨t, r, cs4, a4, b4, e4, k1, k2, k3, k4, ha4⟩ := steps_ex [n0, [97], [112, 97, 103, 101]] [x0, [120], [121, 121], [98], [99, 99], [100], [101], [102]] x0 hN rfl hS cs3 a3 b3 ha3
  have hw := SW_tab cs4 a4 b4
  have wf := weight_eq (s :: l) (by rw [List.length_cons]; omega)
  have wg := weight_eq (t :: r) (by rw [List.length_cons]; omega)
  have df := due_eq (s :: l) g1.s
  have dg := due_eq (t :: r) k1.s
  have jf : ∀ z ∈ s :: l, Jok z.1 := g1.j
  have wrf := written_eq (s :: l) jf (by have := g1.z; omega)
  have ps := psel_eq s l g2 g1.s g3 g1.z g4 (SW cs4 a4 b4) hw
  -- both
  have lw : ((s :: l) ++ [([32], t.2.1, t.2.2)] ++ r).length ≤ 20 := by simp only [List.length_append, List.length_cons, List.length_nil]; omega
  have ww := weight_eq ((s :: l) ++ [([32], t.2.1, t.2.2)] ++ r) (by omega)
  have jw : ∀ z ∈ (s :: l) ++ [([32], t.2.1, t.2.2)] ++ r, Jok z.1 := fun z hz => by
    rcases List.mem_append.mp hz with hz | hz
    · rcases List.mem_append.mp hz with hz | hz
      · exact jf z hz
      · rw [List.mem_singleton.mp hz]; exact .inr (.inl rfl)
    · exact k1.j z (List.mem_cons_of_mem _ hz)
  have zw : (wrL ((s :: l) ++ [([32], t.2.1, t.2.2)] ++ r)).length ≤ 10000 := by
    rw [wrL_app, wrL_app, wrL_cons ([32], t.2.1, t.2.2) []]
    have q1 := g1.z
    have q2 := k1.z
    rw [wrL_cons] at q2
    unfold swL at q2 ⊢
    simp only [List.length_append] at q2 ⊢
    have e : (jL [32]).length = 1 := rfl
    rw [show wrL [] = [] from rfl, e]
    simp only [List.length_nil]
    omega
  have wrw := written_eq ((s :: l) ++ [([32], t.2.1, t.2.2)] ++ r) jw zw
  have lnw := tLen (wrL ((s :: l) ++ [([32], t.2.1, t.2.2)] ++ r)) (by omega)
  have mw : many ((s :: l) ++ [([32], t.2.1, t.2.2)] ++ r) = many (s :: l) + many (t :: r) := by
    rw [many_app, many_app, many_cons ([32], t.2.1, t.2.2) [], many_cons t r, show many [] = 0 from rfl]
    show many (s :: l) + (((t.2.2.length : Nat) : Int) + 0) + many r = _
    omega
  have nw : nams ((s :: l) ++ [([32], t.2.1, t.2.2)] ++ r) = nams (s :: l) + nams (t :: r) := by
    rw [nams_app, nams_app, nams_cons ([32], t.2.1, t.2.2) [], nams_cons t r, show nams [] = 0 from rfl]
    have e : isNm ([32], t.2.1, t.2.2) = isNm t := rfl
    rw [e]
    omega
  rw [mw, nw] at ww
  have ctf : cTuple [.list ((s :: l).map enc)] = some (.tuple ((s :: l).map enc)) := rfl
  have ctg : cTuple [.list ((t :: r).map enc)] = some (.tuple ((t :: r).map enc)) := rfl
  have ctw : cTuple [.list (((s :: l) ++ [([32], t.2.1, t.2.2)] ++ r).map enc)] = some (.tuple (((s :: l) ++ [([32], t.2.1, t.2.2)] ++ r).map enc)) := rfl
  have clw : cLen [.list (((s :: l) ++ [([32], t.2.1, t.2.2)] ++ r).map enc)] = some (.int (((s :: l) ++ [([32], t.2.1, t.2.2)] ++ r).length : Nat)) := by
    show some (PyData.int ((((s :: l) ++ [([32], t.2.1, t.2.2)] ++ r).map enc).length : Nat)) = _
    rw [List.length_map]
  have x00 : oIx (.list ((t :: r).map enc)) (.int 0) = some (enc t) := by rw [oIx_l, List.map_cons, atI_0]
  have x01 : oIx (enc t) (.int 1) = some (tS t.2.1) := rfl
  have x02 : oIx (enc t) (.int 2) = some (.tuple (t.2.2.map tS)) := rfl
  have sl : oSl (.list ((t :: r).map enc)) (some 1) none = some (.list (r.map enc)) := by rw [oSl_l, cutD_map, cut_tail]
  have ad1 : oAdd (.list ((s :: l).map enc)) (.list [.tuple [tS [32], tS t.2.1, .tuple (t.2.2.map tS)]]) = some (.list (((s :: l) ++ [([32], t.2.1, t.2.2)]).map enc)) := by
    unfold oAdd
    simp only []
    rw [if_pos (size_le (by rw [List.length_map]; simp only [List.length_cons, List.length_nil]; omega)), List.map_append]
    rfl
  have ad2 : oAdd (.list (((s :: l) ++ [([32], t.2.1, t.2.2)]).map enc)) (.list (r.map enc)) = some (.list (((s :: l) ++ [([32], t.2.1, t.2.2)] ++ r).map enc)) := by
    unfold oAdd
    simp only []
    rw [if_pos (size_le (by rw [List.length_map, List.length_map]; simp only [List.length_append, List.length_cons, List.length_nil]; omega)), ← List.map_append]
  generalize hWL : (wrL ((s :: l) ++ [([32], t.2.1, t.2.2)] ++ r)).length = WL at *
  generalize hLW : ((s :: l) ++ [([32], t.2.1, t.2.2)] ++ r).length = LW at *
  generalize tS (wrL ((s :: l) ++ [([32], t.2.1, t.2.2)] ++ r)) = WT at *
  generalize ((s :: l) ++ [([32], t.2.1, t.2.2)] ++ r).map enc = WE at *
  generalize ((s :: l) ++ [([32], t.2.1, t.2.2)]).map enc = WE1 at *
  generalize tS (wrL (s :: l)) = FT at *
  generalize (s :: l).map enc = FE at *
  generalize (t :: r).map enc = GE at *
  generalize r.map enc = RE at *
  generalize PyData.tuple (t.2.2.map tS) = TM at *
  generalize tS t.2.1 = TN at *
  generalize enc t = TE at *
  generalize many (s :: l) = mf at *
  generalize many (t :: r) = mg at *
  generalize nams (s :: l) = nf at *
  generalize nams (t :: r) = ng at *
  have i1 := isint_eq mf
  have i2 := isint_eq nf
  have two : cLen [.tuple [.int mf, .int nf]] = some (.int 2) := rfl
  have ist : isT "tuple" (.tuple [.int mf, .int nf]) = some true := rfl
  have y0 : oIx (.tuple [.int mf, .int nf]) (.int 0) = some (.int mf) := rfl
  have y1 : oIx (.tuple [.int mf, .int nf]) (.int 1) = some (.int nf) := rfl
  have z0 : oIx (.tuple [.int mg, .int ng]) (.int 0) = some (.int mg) := rfl
  have z1 : oIx (.tuple [.int mg, .int ng]) (.int 1) = some (.int ng) := rfl
  have nf2 := ne_two mf nf
  have eg2 := eq_two mg ng
  have ew2 := eq_two (mf + mg) (nf + ng)
  have NE : PyData.list ([n0, [97], [112, 97, 103, 101]].map tS) = .list [tS n0, tS [97], tS [112, 97, 103, 101]] := rfl
  have SE : PyData.list ([x0, [120], [121, 121], [98], [99, 99], [100], [101], [102]].map tS) = .list [tS x0, tS [120], tS [121, 121], tS [98], tS [99, 99], tS [100], tS [101], tS [102]] := rfl
  rw [NE, SE] at e3 e4
  have lits : PyData.str (Str.ofString "a") = tS [97] ∧ PyData.str (Str.ofString "page") = tS [112, 97, 103, 101] ∧ PyData.str (Str.ofString "x") = tS [120] ∧ PyData.str (Str.ofString "yy") = tS [121, 121] ∧ PyData.str (Str.ofString "b") = tS [98] ∧ PyData.str (Str.ofString "cc") = tS [99, 99] ∧ PyData.str (Str.ofString "d") = tS [100] ∧ PyData.str (Str.ofString "e") = tS [101] ∧ PyData.str (Str.ofString "f") = tS [102] := by
    refine ⟨?_, ?_, ?_, ?_, ?_, ?_, ?_, ?_, ?_⟩ <;> exact lit _ _ (by decide +kernel)
  obtain ⟨q1, q2, q3, q4, q5, q6, q7, q8, q9⟩ := lits
  have c2 : ((2 : Int) = 2) = True := eq_true rfl
  suffices h : ∃ w, B_law [.scr S, .un, .un, .un, .un, .un, .un, .un, .un] [.tab "is_word"] = some (.rt (.d (.bool true)), w) by
    obtain ⟨w, e⟩ := h
    exact ⟨w, boxW_rt rfl e⟩
  unfold B_law
  rw [q1, q2, q3, q4, q5, q6, q7, q8, q9, lit_sp]
  rw [mseq_nx (ρ' := [.scr S, .st 2, .un, .un, .un, .un, .un, .un, .un]) (w1 := SW ns 0 1) (by rw [mAny_r, mQR_r, nl]; rfl)]
  have c1 : mCall F__law_word (maQ (mVar 1) maNil) [.scr S, .st 2, .un, .un, .un, .un, .un, .un, .un] (SW ns 0 1) = some (tS n0, SW cs1 a1 b1) := mCall_eq (args := [.r 2]) (w1 := SW ns 0 1) (by simp -implicitDefEqProofs only [eK_r, eV_0, eV_s, eB_0v, eB_0b, eB_0p, eB_0o, eB_s, eP_0v, eP_0b, eP_s, eS_0, eS_s, getS_0, getS_s, aNil_r, aCons_r, eOp_r, eUn_r, eCall_r, eBm_r, eTup_r, eLst_r, eIf_r, eAnd_r, eOr_r, eNot_r, eIs_r, eChain_r, eSl_r, oNo_r, oSo_r, asI_r, bT_r, bV_r, bYes_r, asB_r, truth_b, truth_l, truth_t, truth_n, truth_i, bAnd_r, bOr_r, bNot_r, oAdd_i, oSub_i, oNeg_i, oLt_i, oLe_i, oGt_i, oGe_i, cInt_i, cInt_b, cLen_l, cLen_t, cList_l, cList_t, cMax2_i, cMin2_i, cAbs_i, isT_int_i, isT_bool_i, isT_bool_b, isT_int_b, isT_tuple_t, isT_list_l, oEq_i, oNe_i, oEq_b, oNe_b, oIsN_n, oNotN_n, oIsN_i, oNotN_i, oIsB_b, oNotB_b, sSeqn_r, sNext_r, sBrk_r, sCnt_r, sRetN_r, sExpr_r, sRet_r, sRetOwn_r, sIf_r, sSet_r, sOwn_r, sAsg_r, gV_r, gT_r, gsNil_r, gsCons_r, sFz_r, sAug_r, addI_r, subI_r, sSeq_r, sArgs_r, itemsOf_l, itemsOf_t, sMut_r, fApp_r, Option.bind_some, Option.map_some, List.length_cons, List.length_nil, Nat.zero_add, Nat.reduceAdd, Nat.reduceLT, Nat.reduceLeDiff, List.set_cons_zero, List.set_cons_succ, if_true, Bool.false_eq_true, if_false, Bool.not_true, Bool.not_false, decide_true, decide_false, reduceCtorEq, unD_nil, unD_d, mL_r, mLB_r, mOp_r, mUn_r, mT_r, mV_r, mNot_r, mAndB_r, mOrB_r, mIte_r, maNil_r, maD_r, mF_r, mFK_r, mQ_r, mQR_r, mRv_0, mRv_s, mAndV_r, mOrV_r, mNotV_r, mNext_r, mIf_r, mSet_r, mOwn_r, mAny_r, mAsg_r, mRet_r, List.cons_append, List.nil_append, List.append_nil, maQ_r, mVq_s, mVq_0s]) e1
  rw [mseq_nx (mSet_eq (d := .list [tS n0, tS [97], tS [112, 97, 103, 101]]) (w1 := SW cs1 a1 b1) (by simp -implicitDefEqProofs only [eK_r, eV_0, eV_s, eB_0v, eB_0b, eB_0p, eB_0o, eB_s, eP_0v, eP_0b, eP_s, eS_0, eS_s, getS_0, getS_s, aNil_r, aCons_r, eOp_r, eUn_r, eCall_r, eBm_r, eTup_r, eLst_r, eIf_r, eAnd_r, eOr_r, eNot_r, eIs_r, eChain_r, eSl_r, oNo_r, oSo_r, asI_r, bT_r, bV_r, bYes_r, asB_r, truth_b, truth_l, truth_t, truth_n, truth_i, bAnd_r, bOr_r, bNot_r, oAdd_i, oSub_i, oNeg_i, oLt_i, oLe_i, oGt_i, oGe_i, cInt_i, cInt_b, cLen_l, cLen_t, cList_l, cList_t, cMax2_i, cMin2_i, cAbs_i, isT_int_i, isT_bool_i, isT_bool_b, isT_int_b, isT_tuple_t, isT_list_l, oEq_i, oNe_i, oEq_b, oNe_b, oIsN_n, oNotN_n, oIsN_i, oNotN_i, oIsB_b, oNotB_b, sSeqn_r, sNext_r, sBrk_r, sCnt_r, sRetN_r, sExpr_r, sRet_r, sRetOwn_r, sIf_r, sSet_r, sOwn_r, sAsg_r, gV_r, gT_r, gsNil_r, gsCons_r, sFz_r, sAug_r, addI_r, subI_r, sSeq_r, sArgs_r, itemsOf_l, itemsOf_t, sMut_r, fApp_r, Option.bind_some, Option.map_some, List.length_cons, List.length_nil, Nat.zero_add, Nat.reduceAdd, Nat.reduceLT, Nat.reduceLeDiff, List.set_cons_zero, List.set_cons_succ, if_true, Bool.false_eq_true, if_false, Bool.not_true, Bool.not_false, decide_true, decide_false, reduceCtorEq, unD_nil, unD_d, mL_r, mLB_r, mOp_r, mUn_r, mT_r, mV_r, mNot_r, mAndB_r, mOrB_r, mIte_r, maNil_r, maD_r, mF_r, mFK_r, mQ_r, mQR_r, mRv_0, mRv_s, mAndV_r, mOrV_r, mNotV_r, mNext_r, mIf_r, mSet_r, mOwn_r, mAny_r, mAsg_r, mRet_r, List.cons_append, List.nil_append, List.append_nil, mLst_r, c1, l3]) (by simp))]
  generalize hNN : PyData.list [tS n0, tS [97], tS [112, 97, 103, 101]] = NN at *
  show ∃ w, mSeq _ _ [.scr S, .st 2, .val NN, .un, .un, .un, .un, .un, .un] _ = _
  have c3 : mCall F__law_word (maQ (mVar 1) maNil) [.scr S, .st 2, .val NN, .un, .un, .un, .un, .un, .un] (SW cs1 a1 b1) = some (tS x0, SW cs2 a2 b2) := mCall_eq (args := [.r 2]) (w1 := SW cs1 a1 b1) (by simp -implicitDefEqProofs only [eK_r, eV_0, eV_s, eB_0v, eB_0b, eB_0p, eB_0o, eB_s, eP_0v, eP_0b, eP_s, eS_0, eS_s, getS_0, getS_s, aNil_r, aCons_r, eOp_r, eUn_r, eCall_r, eBm_r, eTup_r, eLst_r, eIf_r, eAnd_r, eOr_r, eNot_r, eIs_r, eChain_r, eSl_r, oNo_r, oSo_r, asI_r, bT_r, bV_r, bYes_r, asB_r, truth_b, truth_l, truth_t, truth_n, truth_i, bAnd_r, bOr_r, bNot_r, oAdd_i, oSub_i, oNeg_i, oLt_i, oLe_i, oGt_i, oGe_i, cInt_i, cInt_b, cLen_l, cLen_t, cList_l, cList_t, cMax2_i, cMin2_i, cAbs_i, isT_int_i, isT_bool_i, isT_bool_b, isT_int_b, isT_tuple_t, isT_list_l, oEq_i, oNe_i, oEq_b, oNe_b, oIsN_n, oNotN_n, oIsN_i, oNotN_i, oIsB_b, oNotB_b, sSeqn_r, sNext_r, sBrk_r, sCnt_r, sRetN_r, sExpr_r, sRet_r, sRetOwn_r, sIf_r, sSet_r, sOwn_r, sAsg_r, gV_r, gT_r, gsNil_r, gsCons_r, sFz_r, sAug_r, addI_r, subI_r, sSeq_r, sArgs_r, itemsOf_l, itemsOf_t, sMut_r, fApp_r, Option.bind_some, Option.map_some, List.length_cons, List.length_nil, Nat.zero_add, Nat.reduceAdd, Nat.reduceLT, Nat.reduceLeDiff, List.set_cons_zero, List.set_cons_succ, if_true, Bool.false_eq_true, if_false, Bool.not_true, Bool.not_false, decide_true, decide_false, reduceCtorEq, unD_nil, unD_d, mL_r, mLB_r, mOp_r, mUn_r, mT_r, mV_r, mNot_r, mAndB_r, mOrB_r, mIte_r, maNil_r, maD_r, mF_r, mFK_r, mQ_r, mQR_r, mRv_0, mRv_s, mAndV_r, mOrV_r, mNotV_r, mNext_r, mIf_r, mSet_r, mOwn_r, mAny_r, mAsg_r, mRet_r, List.cons_append, List.nil_append, List.append_nil, maQ_r, mVq_s, mVq_0s]) e2
  rw [mseq_nx (mSet_eq (d := .list [tS x0, tS [120], tS [121, 121], tS [98], tS [99, 99], tS [100], tS [101], tS [102]]) (w1 := SW cs2 a2 b2) (by simp -implicitDefEqProofs only [eK_r, eV_0, eV_s, eB_0v, eB_0b, eB_0p, eB_0o, eB_s, eP_0v, eP_0b, eP_s, eS_0, eS_s, getS_0, getS_s, aNil_r, aCons_r, eOp_r, eUn_r, eCall_r, eBm_r, eTup_r, eLst_r, eIf_r, eAnd_r, eOr_r, eNot_r, eIs_r, eChain_r, eSl_r, oNo_r, oSo_r, asI_r, bT_r, bV_r, bYes_r, asB_r, truth_b, truth_l, truth_t, truth_n, truth_i, bAnd_r, bOr_r, bNot_r, oAdd_i, oSub_i, oNeg_i, oLt_i, oLe_i, oGt_i, oGe_i, cInt_i, cInt_b, cLen_l, cLen_t, cList_l, cList_t, cMax2_i, cMin2_i, cAbs_i, isT_int_i, isT_bool_i, isT_bool_b, isT_int_b, isT_tuple_t, isT_list_l, oEq_i, oNe_i, oEq_b, oNe_b, oIsN_n, oNotN_n, oIsN_i, oNotN_i, oIsB_b, oNotB_b, sSeqn_r, sNext_r, sBrk_r, sCnt_r, sRetN_r, sExpr_r, sRet_r, sRetOwn_r, sIf_r, sSet_r, sOwn_r, sAsg_r, gV_r, gT_r, gsNil_r, gsCons_r, sFz_r, sAug_r, addI_r, subI_r, sSeq_r, sArgs_r, itemsOf_l, itemsOf_t, sMut_r, fApp_r, Option.bind_some, Option.map_some, List.length_cons, List.length_nil, Nat.zero_add, Nat.reduceAdd, Nat.reduceLT, Nat.reduceLeDiff, List.set_cons_zero, List.set_cons_succ, if_true, Bool.false_eq_true, if_false, Bool.not_true, Bool.not_false, decide_true, decide_false, reduceCtorEq, unD_nil, unD_d, mL_r, mLB_r, mOp_r, mUn_r, mT_r, mV_r, mNot_r, mAndB_r, mOrB_r, mIte_r, maNil_r, maD_r, mF_r, mFK_r, mQ_r, mQR_r, mRv_0, mRv_s, mAndV_r, mOrV_r, mNotV_r, mNext_r, mIf_r, mSet_r, mOwn_r, mAny_r, mAsg_r, mRet_r, List.cons_append, List.nil_append, List.append_nil, mLst_r, c3, l8]) (by simp))]
  generalize hKK : PyData.list [tS x0, tS [120], tS [121, 121], tS [98], tS [99, 99], tS [100], tS [101], tS [102]] = KK at *
  show ∃ w, mSeq _ _ [.scr S, .st 2, .val NN, .val KK, .un, .un, .un, .un, .un] _ = _
  rw [mseq_nx (mSet_eq (d := .list FE) (w1 := SW cs3 a3 b3) (mCall_eq (args := [.r 2, .d NN, .d KK]) (w1 := SW cs2 a2 b2) (by simp -implicitDefEqProofs only [eK_r, eV_0, eV_s, eB_0v, eB_0b, eB_0p, eB_0o, eB_s, eP_0v, eP_0b, eP_s, eS_0, eS_s, getS_0, getS_s, aNil_r, aCons_r, eOp_r, eUn_r, eCall_r, eBm_r, eTup_r, eLst_r, eIf_r, eAnd_r, eOr_r, eNot_r, eIs_r, eChain_r, eSl_r, oNo_r, oSo_r, asI_r, bT_r, bV_r, bYes_r, asB_r, truth_b, truth_l, truth_t, truth_n, truth_i, bAnd_r, bOr_r, bNot_r, oAdd_i, oSub_i, oNeg_i, oLt_i, oLe_i, oGt_i, oGe_i, cInt_i, cInt_b, cLen_l, cLen_t, cList_l, cList_t, cMax2_i, cMin2_i, cAbs_i, isT_int_i, isT_bool_i, isT_bool_b, isT_int_b, isT_tuple_t, isT_list_l, oEq_i, oNe_i, oEq_b, oNe_b, oIsN_n, oNotN_n, oIsN_i, oNotN_i, oIsB_b, oNotB_b, sSeqn_r, sNext_r, sBrk_r, sCnt_r, sRetN_r, sExpr_r, sRet_r, sRetOwn_r, sIf_r, sSet_r, sOwn_r, sAsg_r, gV_r, gT_r, gsNil_r, gsCons_r, sFz_r, sAug_r, addI_r, subI_r, sSeq_r, sArgs_r, itemsOf_l, itemsOf_t, sMut_r, fApp_r, Option.bind_some, Option.map_some, List.length_cons, List.length_nil, Nat.zero_add, Nat.reduceAdd, Nat.reduceLT, Nat.reduceLeDiff, List.set_cons_zero, List.set_cons_succ, if_true, Bool.false_eq_true, if_false, Bool.not_true, Bool.not_false, decide_true, decide_false, reduceCtorEq, unD_nil, unD_d, mL_r, mLB_r, mOp_r, mUn_r, mT_r, mV_r, mNot_r, mAndB_r, mOrB_r, mIte_r, maNil_r, maD_r, mF_r, mFK_r, mQ_r, mQR_r, mRv_0, mRv_s, mAndV_r, mOrV_r, mNotV_r, mNext_r, mIf_r, mSet_r, mOwn_r, mAny_r, mAsg_r, mRet_r, List.cons_append, List.nil_append, List.append_nil, maQ_r, mVq_s, mVq_0s]) e3) (by simp))]
  show ∃ w, mSeq _ _ [.scr S, .st 2, .val NN, .val KK, .val (.list FE), .un, .un, .un, .un] _ = _
  rw [mseq_nx (mSet_eq (d := .list GE) (w1 := SW cs4 a4 b4) (mCall_eq (args := [.r 2, .d NN, .d KK]) (w1 := SW cs3 a3 b3) (by simp -implicitDefEqProofs only [eK_r, eV_0, eV_s, eB_0v, eB_0b, eB_0p, eB_0o, eB_s, eP_0v, eP_0b, eP_s, eS_0, eS_s, getS_0, getS_s, aNil_r, aCons_r, eOp_r, eUn_r, eCall_r, eBm_r, eTup_r, eLst_r, eIf_r, eAnd_r, eOr_r, eNot_r, eIs_r, eChain_r, eSl_r, oNo_r, oSo_r, asI_r, bT_r, bV_r, bYes_r, asB_r, truth_b, truth_l, truth_t, truth_n, truth_i, bAnd_r, bOr_r, bNot_r, oAdd_i, oSub_i, oNeg_i, oLt_i, oLe_i, oGt_i, oGe_i, cInt_i, cInt_b, cLen_l, cLen_t, cList_l, cList_t, cMax2_i, cMin2_i, cAbs_i, isT_int_i, isT_bool_i, isT_bool_b, isT_int_b, isT_tuple_t, isT_list_l, oEq_i, oNe_i, oEq_b, oNe_b, oIsN_n, oNotN_n, oIsN_i, oNotN_i, oIsB_b, oNotB_b, sSeqn_r, sNext_r, sBrk_r, sCnt_r, sRetN_r, sExpr_r, sRet_r, sRetOwn_r, sIf_r, sSet_r, sOwn_r, sAsg_r, gV_r, gT_r, gsNil_r, gsCons_r, sFz_r, sAug_r, addI_r, subI_r, sSeq_r, sArgs_r, itemsOf_l, itemsOf_t, sMut_r, fApp_r, Option.bind_some, Option.map_some, List.length_cons, List.length_nil, Nat.zero_add, Nat.reduceAdd, Nat.reduceLT, Nat.reduceLeDiff, List.set_cons_zero, List.set_cons_succ, if_true, Bool.false_eq_true, if_false, Bool.not_true, Bool.not_false, decide_true, decide_false, reduceCtorEq, unD_nil, unD_d, mL_r, mLB_r, mOp_r, mUn_r, mT_r, mV_r, mNot_r, mAndB_r, mOrB_r, mIte_r, maNil_r, maD_r, mF_r, mFK_r, mQ_r, mQR_r, mRv_0, mRv_s, mAndV_r, mOrV_r, mNotV_r, mNext_r, mIf_r, mSet_r, mOwn_r, mAny_r, mAsg_r, mRet_r, List.cons_append, List.nil_append, List.append_nil, maQ_r, mVq_s, mVq_0s]) e4) (by simp))]
  show ∃ w, mSeq _ _ [.scr S, .st 2, .val NN, .val KK, .val (.list FE), .val (.list GE), .un, .un, .un] _ = _
  rw [mseq_s (ρ' := [.scr S, .st 2, .val NN, .val KK, .val (.list FE), .val (.list GE), .val (.tuple [.int mf, .int nf]), .un, .un]) (by simp -implicitDefEqProofs only [eK_r, eV_0, eV_s, eB_0v, eB_0b, eB_0p, eB_0o, eB_s, eP_0v, eP_0b, eP_s, eS_0, eS_s, getS_0, getS_s, aNil_r, aCons_r, eOp_r, eUn_r, eCall_r, eBm_r, eTup_r, eLst_r, eIf_r, eAnd_r, eOr_r, eNot_r, eIs_r, eChain_r, eSl_r, oNo_r, oSo_r, asI_r, bT_r, bV_r, bYes_r, asB_r, truth_b, truth_l, truth_t, truth_n, truth_i, bAnd_r, bOr_r, bNot_r, oAdd_i, oSub_i, oNeg_i, oLt_i, oLe_i, oGt_i, oGe_i, cInt_i, cInt_b, cLen_l, cLen_t, cList_l, cList_t, cMax2_i, cMin2_i, cAbs_i, isT_int_i, isT_bool_i, isT_bool_b, isT_int_b, isT_tuple_t, isT_list_l, oEq_i, oNe_i, oEq_b, oNe_b, oIsN_n, oNotN_n, oIsN_i, oNotN_i, oIsB_b, oNotB_b, sSeqn_r, sNext_r, sBrk_r, sCnt_r, sRetN_r, sExpr_r, sRet_r, sRetOwn_r, sIf_r, sSet_r, sOwn_r, sAsg_r, gV_r, gT_r, gsNil_r, gsCons_r, sFz_r, sAug_r, addI_r, subI_r, sSeq_r, sArgs_r, itemsOf_l, itemsOf_t, sMut_r, fApp_r, Option.bind_some, Option.map_some, List.length_cons, List.length_nil, Nat.zero_add, Nat.reduceAdd, Nat.reduceLT, Nat.reduceLeDiff, List.set_cons_zero, List.set_cons_succ, if_true, Bool.false_eq_true, if_false, Bool.not_true, Bool.not_false, decide_true, decide_false, reduceCtorEq, ctf, wf])]
  generalize hWW : SW cs4 a4 b4 = WW at *
  rw [mseq_nx (ρ' := [.scr S, .st 2, .val NN, .val KK, .val (.list FE), .val (.list GE), .val (.tuple [.int mf, .int nf]), .un, .un]) (w1 := WW) (by simp -implicitDefEqProofs only [eK_r, eV_0, eV_s, eB_0v, eB_0b, eB_0p, eB_0o, eB_s, eP_0v, eP_0b, eP_s, eS_0, eS_s, getS_0, getS_s, aNil_r, aCons_r, eOp_r, eUn_r, eCall_r, eBm_r, eTup_r, eLst_r, eIf_r, eAnd_r, eOr_r, eNot_r, eIs_r, eChain_r, eSl_r, oNo_r, oSo_r, asI_r, bT_r, bV_r, bYes_r, asB_r, truth_b, truth_l, truth_t, truth_n, truth_i, bAnd_r, bOr_r, bNot_r, oAdd_i, oSub_i, oNeg_i, oLt_i, oLe_i, oGt_i, oGe_i, cInt_i, cInt_b, cLen_l, cLen_t, cList_l, cList_t, cMax2_i, cMin2_i, cAbs_i, isT_int_i, isT_bool_i, isT_bool_b, isT_int_b, isT_tuple_t, isT_list_l, oEq_i, oNe_i, oEq_b, oNe_b, oIsN_n, oNotN_n, oIsN_i, oNotN_i, oIsB_b, oNotB_b, sSeqn_r, sNext_r, sBrk_r, sCnt_r, sRetN_r, sExpr_r, sRet_r, sRetOwn_r, sIf_r, sSet_r, sOwn_r, sAsg_r, gV_r, gT_r, gsNil_r, gsCons_r, sFz_r, sAug_r, addI_r, subI_r, sSeq_r, sArgs_r, itemsOf_l, itemsOf_t, sMut_r, fApp_r, Option.bind_some, Option.map_some, List.length_cons, List.length_nil, Nat.zero_add, Nat.reduceAdd, Nat.reduceLT, Nat.reduceLeDiff, List.set_cons_zero, List.set_cons_succ, if_true, Bool.false_eq_true, if_false, Bool.not_true, Bool.not_false, decide_true, decide_false, reduceCtorEq, unD_nil, unD_d, mL_r, mLB_r, mOp_r, mUn_r, mT_r, mV_r, mNot_r, mAndB_r, mOrB_r, mIte_r, maNil_r, maD_r, mF_r, mFK_r, mQ_r, mQR_r, mRv_0, mRv_s, mAndV_r, mOrV_r, mNotV_r, mNext_r, mIf_r, mSet_r, mOwn_r, mAny_r, mAsg_r, mRet_r, List.cons_append, List.nil_append, List.append_nil, ist, two, c2, df, nf2])]
  rw [mseq_nx (ρ' := [.scr S, .st 2, .val NN, .val KK, .val (.list FE), .val (.list GE), .val (.tuple [.int mf, .int nf]), .un, .un]) (w1 := WW) (by simp -implicitDefEqProofs only [eK_r, eV_0, eV_s, eB_0v, eB_0b, eB_0p, eB_0o, eB_s, eP_0v, eP_0b, eP_s, eS_0, eS_s, getS_0, getS_s, aNil_r, aCons_r, eOp_r, eUn_r, eCall_r, eBm_r, eTup_r, eLst_r, eIf_r, eAnd_r, eOr_r, eNot_r, eIs_r, eChain_r, eSl_r, oNo_r, oSo_r, asI_r, bT_r, bV_r, bYes_r, asB_r, truth_b, truth_l, truth_t, truth_n, truth_i, bAnd_r, bOr_r, bNot_r, oAdd_i, oSub_i, oNeg_i, oLt_i, oLe_i, oGt_i, oGe_i, cInt_i, cInt_b, cLen_l, cLen_t, cList_l, cList_t, cMax2_i, cMin2_i, cAbs_i, isT_int_i, isT_bool_i, isT_bool_b, isT_int_b, isT_tuple_t, isT_list_l, oEq_i, oNe_i, oEq_b, oNe_b, oIsN_n, oNotN_n, oIsN_i, oNotN_i, oIsB_b, oNotB_b, sSeqn_r, sNext_r, sBrk_r, sCnt_r, sRetN_r, sExpr_r, sRet_r, sRetOwn_r, sIf_r, sSet_r, sOwn_r, sAsg_r, gV_r, gT_r, gsNil_r, gsCons_r, sFz_r, sAug_r, addI_r, subI_r, sSeq_r, sArgs_r, itemsOf_l, itemsOf_t, sMut_r, fApp_r, Option.bind_some, Option.map_some, List.length_cons, List.length_nil, Nat.zero_add, Nat.reduceAdd, Nat.reduceLT, Nat.reduceLeDiff, List.set_cons_zero, List.set_cons_succ, if_true, Bool.false_eq_true, if_false, Bool.not_true, Bool.not_false, decide_true, decide_false, reduceCtorEq, unD_nil, unD_d, mL_r, mLB_r, mOp_r, mUn_r, mT_r, mV_r, mNot_r, mAndB_r, mOrB_r, mIte_r, maNil_r, maD_r, mF_r, mFK_r, mQ_r, mQR_r, mRv_0, mRv_s, mAndV_r, mOrV_r, mNotV_r, mNext_r, mIf_r, mSet_r, mOwn_r, mAny_r, mAsg_r, mRet_r, List.cons_append, List.nil_append, List.append_nil, y0, y1, i1, i2])]
  have cp : mCall F_parse_selector (maD (mL (eCall F__law_written (aCons (eB 4) aNil))) maNil) [.scr S, .st 2, .val NN, .val KK, .val (.list FE), .val (.list GE), .val (.tuple [.int mf, .int nf]), .un, .un] WW = some (.tuple FE, WW) := mCall_eq (args := [.d FT]) (w1 := WW) (by simp -implicitDefEqProofs only [eK_r, eV_0, eV_s, eB_0v, eB_0b, eB_0p, eB_0o, eB_s, eP_0v, eP_0b, eP_s, eS_0, eS_s, getS_0, getS_s, aNil_r, aCons_r, eOp_r, eUn_r, eCall_r, eBm_r, eTup_r, eLst_r, eIf_r, eAnd_r, eOr_r, eNot_r, eIs_r, eChain_r, eSl_r, oNo_r, oSo_r, asI_r, bT_r, bV_r, bYes_r, asB_r, truth_b, truth_l, truth_t, truth_n, truth_i, bAnd_r, bOr_r, bNot_r, oAdd_i, oSub_i, oNeg_i, oLt_i, oLe_i, oGt_i, oGe_i, cInt_i, cInt_b, cLen_l, cLen_t, cList_l, cList_t, cMax2_i, cMin2_i, cAbs_i, isT_int_i, isT_bool_i, isT_bool_b, isT_int_b, isT_tuple_t, isT_list_l, oEq_i, oNe_i, oEq_b, oNe_b, oIsN_n, oNotN_n, oIsN_i, oNotN_i, oIsB_b, oNotB_b, sSeqn_r, sNext_r, sBrk_r, sCnt_r, sRetN_r, sExpr_r, sRet_r, sRetOwn_r, sIf_r, sSet_r, sOwn_r, sAsg_r, gV_r, gT_r, gsNil_r, gsCons_r, sFz_r, sAug_r, addI_r, subI_r, sSeq_r, sArgs_r, itemsOf_l, itemsOf_t, sMut_r, fApp_r, Option.bind_some, Option.map_some, List.length_cons, List.length_nil, Nat.zero_add, Nat.reduceAdd, Nat.reduceLT, Nat.reduceLeDiff, List.set_cons_zero, List.set_cons_succ, if_true, Bool.false_eq_true, if_false, Bool.not_true, Bool.not_false, decide_true, decide_false, reduceCtorEq, unD_nil, unD_d, mL_r, mLB_r, mOp_r, mUn_r, mT_r, mV_r, mNot_r, mAndB_r, mOrB_r, mIte_r, maNil_r, maD_r, mF_r, mFK_r, mQ_r, mQR_r, mRv_0, mRv_s, mAndV_r, mOrV_r, mNotV_r, mNext_r, mIf_r, mSet_r, mOwn_r, mAny_r, mAsg_r, mRet_r, List.cons_append, List.nil_append, List.append_nil, wrf]) ps
  rw [mseq_nx (ρ' := [.scr S, .st 2, .val NN, .val KK, .val (.list FE), .val (.list GE), .val (.tuple [.int mf, .int nf]), .un, .un]) (w1 := WW) (by simp -implicitDefEqProofs only [eK_r, eV_0, eV_s, eB_0v, eB_0b, eB_0p, eB_0o, eB_s, eP_0v, eP_0b, eP_s, eS_0, eS_s, getS_0, getS_s, aNil_r, aCons_r, eOp_r, eUn_r, eCall_r, eBm_r, eTup_r, eLst_r, eIf_r, eAnd_r, eOr_r, eNot_r, eIs_r, eChain_r, eSl_r, oNo_r, oSo_r, asI_r, bT_r, bV_r, bYes_r, asB_r, truth_b, truth_l, truth_t, truth_n, truth_i, bAnd_r, bOr_r, bNot_r, oAdd_i, oSub_i, oNeg_i, oLt_i, oLe_i, oGt_i, oGe_i, cInt_i, cInt_b, cLen_l, cLen_t, cList_l, cList_t, cMax2_i, cMin2_i, cAbs_i, isT_int_i, isT_bool_i, isT_bool_b, isT_int_b, isT_tuple_t, isT_list_l, oEq_i, oNe_i, oEq_b, oNe_b, oIsN_n, oNotN_n, oIsN_i, oNotN_i, oIsB_b, oNotB_b, sSeqn_r, sNext_r, sBrk_r, sCnt_r, sRetN_r, sExpr_r, sRet_r, sRetOwn_r, sIf_r, sSet_r, sOwn_r, sAsg_r, gV_r, gT_r, gsNil_r, gsCons_r, sFz_r, sAug_r, addI_r, subI_r, sSeq_r, sArgs_r, itemsOf_l, itemsOf_t, sMut_r, fApp_r, Option.bind_some, Option.map_some, List.length_cons, List.length_nil, Nat.zero_add, Nat.reduceAdd, Nat.reduceLT, Nat.reduceLeDiff, List.set_cons_zero, List.set_cons_succ, if_true, Bool.false_eq_true, if_false, Bool.not_true, Bool.not_false, decide_true, decide_false, reduceCtorEq, unD_nil, unD_d, mL_r, mLB_r, mOp_r, mUn_r, mT_r, mV_r, mNot_r, mAndB_r, mOrB_r, mIte_r, maNil_r, maD_r, mF_r, mFK_r, mQ_r, mQR_r, mRv_0, mRv_s, mAndV_r, mOrV_r, mNotV_r, mNext_r, mIf_r, mSet_r, mOwn_r, mAny_r, mAsg_r, mRet_r, List.cons_append, List.nil_append, List.append_nil, cp, wf, nf2])]
  rw [mseq_s (ρ' := [.scr S, .st 2, .val NN, .val KK, .val (.list FE), .val (.list GE), .val (.tuple [.int mf, .int nf]), .val (.tuple [.int mg, .int ng]), .un]) (by simp -implicitDefEqProofs only [eK_r, eV_0, eV_s, eB_0v, eB_0b, eB_0p, eB_0o, eB_s, eP_0v, eP_0b, eP_s, eS_0, eS_s, getS_0, getS_s, aNil_r, aCons_r, eOp_r, eUn_r, eCall_r, eBm_r, eTup_r, eLst_r, eIf_r, eAnd_r, eOr_r, eNot_r, eIs_r, eChain_r, eSl_r, oNo_r, oSo_r, asI_r, bT_r, bV_r, bYes_r, asB_r, truth_b, truth_l, truth_t, truth_n, truth_i, bAnd_r, bOr_r, bNot_r, oAdd_i, oSub_i, oNeg_i, oLt_i, oLe_i, oGt_i, oGe_i, cInt_i, cInt_b, cLen_l, cLen_t, cList_l, cList_t, cMax2_i, cMin2_i, cAbs_i, isT_int_i, isT_bool_i, isT_bool_b, isT_int_b, isT_tuple_t, isT_list_l, oEq_i, oNe_i, oEq_b, oNe_b, oIsN_n, oNotN_n, oIsN_i, oNotN_i, oIsB_b, oNotB_b, sSeqn_r, sNext_r, sBrk_r, sCnt_r, sRetN_r, sExpr_r, sRet_r, sRetOwn_r, sIf_r, sSet_r, sOwn_r, sAsg_r, gV_r, gT_r, gsNil_r, gsCons_r, sFz_r, sAug_r, addI_r, subI_r, sSeq_r, sArgs_r, itemsOf_l, itemsOf_t, sMut_r, fApp_r, Option.bind_some, Option.map_some, List.length_cons, List.length_nil, Nat.zero_add, Nat.reduceAdd, Nat.reduceLT, Nat.reduceLeDiff, List.set_cons_zero, List.set_cons_succ, if_true, Bool.false_eq_true, if_false, Bool.not_true, Bool.not_false, decide_true, decide_false, reduceCtorEq, ctg, wg])]
  rw [mseq_s (ρ' := [.scr S, .st 2, .val NN, .val KK, .val (.list FE), .val (.list GE), .val (.tuple [.int mf, .int nf]), .val (.tuple [.int mg, .int ng]), .val (.list WE)]) (by simp -implicitDefEqProofs only [eK_r, eV_0, eV_s, eB_0v, eB_0b, eB_0p, eB_0o, eB_s, eP_0v, eP_0b, eP_s, eS_0, eS_s, getS_0, getS_s, aNil_r, aCons_r, eOp_r, eUn_r, eCall_r, eBm_r, eTup_r, eLst_r, eIf_r, eAnd_r, eOr_r, eNot_r, eIs_r, eChain_r, eSl_r, oNo_r, oSo_r, asI_r, bT_r, bV_r, bYes_r, asB_r, truth_b, truth_l, truth_t, truth_n, truth_i, bAnd_r, bOr_r, bNot_r, oAdd_i, oSub_i, oNeg_i, oLt_i, oLe_i, oGt_i, oGe_i, cInt_i, cInt_b, cLen_l, cLen_t, cList_l, cList_t, cMax2_i, cMin2_i, cAbs_i, isT_int_i, isT_bool_i, isT_bool_b, isT_int_b, isT_tuple_t, isT_list_l, oEq_i, oNe_i, oEq_b, oNe_b, oIsN_n, oNotN_n, oIsN_i, oNotN_i, oIsB_b, oNotB_b, sSeqn_r, sNext_r, sBrk_r, sCnt_r, sRetN_r, sExpr_r, sRet_r, sRetOwn_r, sIf_r, sSet_r, sOwn_r, sAsg_r, gV_r, gT_r, gsNil_r, gsCons_r, sFz_r, sAug_r, addI_r, subI_r, sSeq_r, sArgs_r, itemsOf_l, itemsOf_t, sMut_r, fApp_r, Option.bind_some, Option.map_some, List.length_cons, List.length_nil, Nat.zero_add, Nat.reduceAdd, Nat.reduceLT, Nat.reduceLeDiff, List.set_cons_zero, List.set_cons_succ, if_true, Bool.false_eq_true, if_false, Bool.not_true, Bool.not_false, decide_true, decide_false, reduceCtorEq, l1, l3, x00, x01, x02, ad1, sl, ad2])]
  by_cases d1 : (4 : Int) < (LW : Nat)
  · refine ⟨WW, ?_⟩
    rw [mseq_rt (x := .d (.bool true)) (w1 := WW) (by
      rw [mIf_t (w1 := WW) (by simp -implicitDefEqProofs only [eK_r, eV_0, eV_s, eB_0v, eB_0b, eB_0p, eB_0o, eB_s, eP_0v, eP_0b, eP_s, eS_0, eS_s, getS_0, getS_s, aNil_r, aCons_r, eOp_r, eUn_r, eCall_r, eBm_r, eTup_r, eLst_r, eIf_r, eAnd_r, eOr_r, eNot_r, eIs_r, eChain_r, eSl_r, oNo_r, oSo_r, asI_r, bT_r, bV_r, bYes_r, asB_r, truth_b, truth_l, truth_t, truth_n, truth_i, bAnd_r, bOr_r, bNot_r, oAdd_i, oSub_i, oNeg_i, oLt_i, oLe_i, oGt_i, oGe_i, cInt_i, cInt_b, cLen_l, cLen_t, cList_l, cList_t, cMax2_i, cMin2_i, cAbs_i, isT_int_i, isT_bool_i, isT_bool_b, isT_int_b, isT_tuple_t, isT_list_l, oEq_i, oNe_i, oEq_b, oNe_b, oIsN_n, oNotN_n, oIsN_i, oNotN_i, oIsB_b, oNotB_b, sSeqn_r, sNext_r, sBrk_r, sCnt_r, sRetN_r, sExpr_r, sRet_r, sRetOwn_r, sIf_r, sSet_r, sOwn_r, sAsg_r, gV_r, gT_r, gsNil_r, gsCons_r, sFz_r, sAug_r, addI_r, subI_r, sSeq_r, sArgs_r, itemsOf_l, itemsOf_t, sMut_r, fApp_r, Option.bind_some, Option.map_some, List.length_cons, List.length_nil, Nat.zero_add, Nat.reduceAdd, Nat.reduceLT, Nat.reduceLeDiff, List.set_cons_zero, List.set_cons_succ, if_true, Bool.false_eq_true, if_false, Bool.not_true, Bool.not_false, decide_true, decide_false, reduceCtorEq, unD_nil, unD_d, mL_r, mLB_r, mOp_r, mUn_r, mT_r, mV_r, mNot_r, mAndB_r, mOrB_r, mIte_r, maNil_r, maD_r, mF_r, mFK_r, mQ_r, mQR_r, mRv_0, mRv_s, mAndV_r, mOrV_r, mNotV_r, mNext_r, mIf_r, mSet_r, mOwn_r, mAny_r, mAsg_r, mRet_r, List.cons_append, List.nil_append, List.append_nil, clw, d1])]
      simp -implicitDefEqProofs only [eK_r, eV_0, eV_s, eB_0v, eB_0b, eB_0p, eB_0o, eB_s, eP_0v, eP_0b, eP_s, eS_0, eS_s, getS_0, getS_s, aNil_r, aCons_r, eOp_r, eUn_r, eCall_r, eBm_r, eTup_r, eLst_r, eIf_r, eAnd_r, eOr_r, eNot_r, eIs_r, eChain_r, eSl_r, oNo_r, oSo_r, asI_r, bT_r, bV_r, bYes_r, asB_r, truth_b, truth_l, truth_t, truth_n, truth_i, bAnd_r, bOr_r, bNot_r, oAdd_i, oSub_i, oNeg_i, oLt_i, oLe_i, oGt_i, oGe_i, cInt_i, cInt_b, cLen_l, cLen_t, cList_l, cList_t, cMax2_i, cMin2_i, cAbs_i, isT_int_i, isT_bool_i, isT_bool_b, isT_int_b, isT_tuple_t, isT_list_l, oEq_i, oNe_i, oEq_b, oNe_b, oIsN_n, oNotN_n, oIsN_i, oNotN_i, oIsB_b, oNotB_b, sSeqn_r, sNext_r, sBrk_r, sCnt_r, sRetN_r, sExpr_r, sRet_r, sRetOwn_r, sIf_r, sSet_r, sOwn_r, sAsg_r, gV_r, gT_r, gsNil_r, gsCons_r, sFz_r, sAug_r, addI_r, subI_r, sSeq_r, sArgs_r, itemsOf_l, itemsOf_t, sMut_r, fApp_r, Option.bind_some, Option.map_some, List.length_cons, List.length_nil, Nat.zero_add, Nat.reduceAdd, Nat.reduceLT, Nat.reduceLeDiff, List.set_cons_zero, List.set_cons_succ, if_true, Bool.false_eq_true, if_false, Bool.not_true, Bool.not_false, decide_true, decide_false, reduceCtorEq, unD_nil, unD_d, mL_r, mLB_r, mOp_r, mUn_r, mT_r, mV_r, mNot_r, mAndB_r, mOrB_r, mIte_r, maNil_r, maD_r, mF_r, mFK_r, mQ_r, mQR_r, mRv_0, mRv_s, mAndV_r, mOrV_r, mNotV_r, mNext_r, mIf_r, mSet_r, mOwn_r, mAny_r, mAsg_r, mRet_r, List.cons_append, List.nil_append, List.append_nil, dg, eg2])]
  · by_cases d2 : (100 : Int) < (WL : Nat)
    · refine ⟨WW, ?_⟩
      rw [mseq_rt (x := .d (.bool true)) (w1 := WW) (by
        rw [mIf_t (w1 := WW) (by simp -implicitDefEqProofs only [eK_r, eV_0, eV_s, eB_0v, eB_0b, eB_0p, eB_0o, eB_s, eP_0v, eP_0b, eP_s, eS_0, eS_s, getS_0, getS_s, aNil_r, aCons_r, eOp_r, eUn_r, eCall_r, eBm_r, eTup_r, eLst_r, eIf_r, eAnd_r, eOr_r, eNot_r, eIs_r, eChain_r, eSl_r, oNo_r, oSo_r, asI_r, bT_r, bV_r, bYes_r, asB_r, truth_b, truth_l, truth_t, truth_n, truth_i, bAnd_r, bOr_r, bNot_r, oAdd_i, oSub_i, oNeg_i, oLt_i, oLe_i, oGt_i, oGe_i, cInt_i, cInt_b, cLen_l, cLen_t, cList_l, cList_t, cMax2_i, cMin2_i, cAbs_i, isT_int_i, isT_bool_i, isT_bool_b, isT_int_b, isT_tuple_t, isT_list_l, oEq_i, oNe_i, oEq_b, oNe_b, oIsN_n, oNotN_n, oIsN_i, oNotN_i, oIsB_b, oNotB_b, sSeqn_r, sNext_r, sBrk_r, sCnt_r, sRetN_r, sExpr_r, sRet_r, sRetOwn_r, sIf_r, sSet_r, sOwn_r, sAsg_r, gV_r, gT_r, gsNil_r, gsCons_r, sFz_r, sAug_r, addI_r, subI_r, sSeq_r, sArgs_r, itemsOf_l, itemsOf_t, sMut_r, fApp_r, Option.bind_some, Option.map_some, List.length_cons, List.length_nil, Nat.zero_add, Nat.reduceAdd, Nat.reduceLT, Nat.reduceLeDiff, List.set_cons_zero, List.set_cons_succ, if_true, Bool.false_eq_true, if_false, Bool.not_true, Bool.not_false, decide_true, decide_false, reduceCtorEq, unD_nil, unD_d, mL_r, mLB_r, mOp_r, mUn_r, mT_r, mV_r, mNot_r, mAndB_r, mOrB_r, mIte_r, maNil_r, maD_r, mF_r, mFK_r, mQ_r, mQR_r, mRv_0, mRv_s, mAndV_r, mOrV_r, mNotV_r, mNext_r, mIf_r, mSet_r, mOwn_r, mAny_r, mAsg_r, mRet_r, List.cons_append, List.nil_append, List.append_nil, clw, d1, wrw, lnw, d2])]
        simp -implicitDefEqProofs only [eK_r, eV_0, eV_s, eB_0v, eB_0b, eB_0p, eB_0o, eB_s, eP_0v, eP_0b, eP_s, eS_0, eS_s, getS_0, getS_s, aNil_r, aCons_r, eOp_r, eUn_r, eCall_r, eBm_r, eTup_r, eLst_r, eIf_r, eAnd_r, eOr_r, eNot_r, eIs_r, eChain_r, eSl_r, oNo_r, oSo_r, asI_r, bT_r, bV_r, bYes_r, asB_r, truth_b, truth_l, truth_t, truth_n, truth_i, bAnd_r, bOr_r, bNot_r, oAdd_i, oSub_i, oNeg_i, oLt_i, oLe_i, oGt_i, oGe_i, cInt_i, cInt_b, cLen_l, cLen_t, cList_l, cList_t, cMax2_i, cMin2_i, cAbs_i, isT_int_i, isT_bool_i, isT_bool_b, isT_int_b, isT_tuple_t, isT_list_l, oEq_i, oNe_i, oEq_b, oNe_b, oIsN_n, oNotN_n, oIsN_i, oNotN_i, oIsB_b, oNotB_b, sSeqn_r, sNext_r, sBrk_r, sCnt_r, sRetN_r, sExpr_r, sRet_r, sRetOwn_r, sIf_r, sSet_r, sOwn_r, sAsg_r, gV_r, gT_r, gsNil_r, gsCons_r, sFz_r, sAug_r, addI_r, subI_r, sSeq_r, sArgs_r, itemsOf_l, itemsOf_t, sMut_r, fApp_r, Option.bind_some, Option.map_some, List.length_cons, List.length_nil, Nat.zero_add, Nat.reduceAdd, Nat.reduceLT, Nat.reduceLeDiff, List.set_cons_zero, List.set_cons_succ, if_true, Bool.false_eq_true, if_false, Bool.not_true, Bool.not_false, decide_true, decide_false, reduceCtorEq, unD_nil, unD_d, mL_r, mLB_r, mOp_r, mUn_r, mT_r, mV_r, mNot_r, mAndB_r, mOrB_r, mIte_r, maNil_r, maD_r, mF_r, mFK_r, mQ_r, mQR_r, mRv_0, mRv_s, mAndV_r, mOrV_r, mNotV_r, mNext_r, mIf_r, mSet_r, mOwn_r, mAny_r, mAsg_r, mRet_r, List.cons_append, List.nil_append, List.append_nil, dg, eg2])]
    · refine ⟨WW, ?_⟩
      rw [mseq_nx (ρ' := [.scr S, .st 2, .val NN, .val KK, .val (.list FE), .val (.list GE), .val (.tuple [.int mf, .int nf]), .val (.tuple [.int mg, .int ng]), .val (.list WE)]) (w1 := WW) (by rw [mIf_f (w1 := WW) (by simp -implicitDefEqProofs only [eK_r, eV_0, eV_s, eB_0v, eB_0b, eB_0p, eB_0o, eB_s, eP_0v, eP_0b, eP_s, eS_0, eS_s, getS_0, getS_s, aNil_r, aCons_r, eOp_r, eUn_r, eCall_r, eBm_r, eTup_r, eLst_r, eIf_r, eAnd_r, eOr_r, eNot_r, eIs_r, eChain_r, eSl_r, oNo_r, oSo_r, asI_r, bT_r, bV_r, bYes_r, asB_r, truth_b, truth_l, truth_t, truth_n, truth_i, bAnd_r, bOr_r, bNot_r, oAdd_i, oSub_i, oNeg_i, oLt_i, oLe_i, oGt_i, oGe_i, cInt_i, cInt_b, cLen_l, cLen_t, cList_l, cList_t, cMax2_i, cMin2_i, cAbs_i, isT_int_i, isT_bool_i, isT_bool_b, isT_int_b, isT_tuple_t, isT_list_l, oEq_i, oNe_i, oEq_b, oNe_b, oIsN_n, oNotN_n, oIsN_i, oNotN_i, oIsB_b, oNotB_b, sSeqn_r, sNext_r, sBrk_r, sCnt_r, sRetN_r, sExpr_r, sRet_r, sRetOwn_r, sIf_r, sSet_r, sOwn_r, sAsg_r, gV_r, gT_r, gsNil_r, gsCons_r, sFz_r, sAug_r, addI_r, subI_r, sSeq_r, sArgs_r, itemsOf_l, itemsOf_t, sMut_r, fApp_r, Option.bind_some, Option.map_some, List.length_cons, List.length_nil, Nat.zero_add, Nat.reduceAdd, Nat.reduceLT, Nat.reduceLeDiff, List.set_cons_zero, List.set_cons_succ, if_true, Bool.false_eq_true, if_false, Bool.not_true, Bool.not_false, decide_true, decide_false, reduceCtorEq, unD_nil, unD_d, mL_r, mLB_r, mOp_r, mUn_r, mT_r, mV_r, mNot_r, mAndB_r, mOrB_r, mIte_r, maNil_r, maD_r, mF_r, mFK_r, mQ_r, mQR_r, mRv_0, mRv_s, mAndV_r, mOrV_r, mNotV_r, mNext_r, mIf_r, mSet_r, mOwn_r, mAny_r, mAsg_r, mRet_r, List.cons_append, List.nil_append, List.append_nil, clw, d1, wrw, lnw, d2])]; rfl)]
      simp -implicitDefEqProofs only [eK_r, eV_0, eV_s, eB_0v, eB_0b, eB_0p, eB_0o, eB_s, eP_0v, eP_0b, eP_s, eS_0, eS_s, getS_0, getS_s, aNil_r, aCons_r, eOp_r, eUn_r, eCall_r, eBm_r, eTup_r, eLst_r, eIf_r, eAnd_r, eOr_r, eNot_r, eIs_r, eChain_r, eSl_r, oNo_r, oSo_r, asI_r, bT_r, bV_r, bYes_r, asB_r, truth_b, truth_l, truth_t, truth_n, truth_i, bAnd_r, bOr_r, bNot_r, oAdd_i, oSub_i, oNeg_i, oLt_i, oLe_i, oGt_i, oGe_i, cInt_i, cInt_b, cLen_l, cLen_t, cList_l, cList_t, cMax2_i, cMin2_i, cAbs_i, isT_int_i, isT_bool_i, isT_bool_b, isT_int_b, isT_tuple_t, isT_list_l, oEq_i, oNe_i, oEq_b, oNe_b, oIsN_n, oNotN_n, oIsN_i, oNotN_i, oIsB_b, oNotB_b, sSeqn_r, sNext_r, sBrk_r, sCnt_r, sRetN_r, sExpr_r, sRet_r, sRetOwn_r, sIf_r, sSet_r, sOwn_r, sAsg_r, gV_r, gT_r, gsNil_r, gsCons_r, sFz_r, sAug_r, addI_r, subI_r, sSeq_r, sArgs_r, itemsOf_l, itemsOf_t, sMut_r, fApp_r, Option.bind_some, Option.map_some, List.length_cons, List.length_nil, Nat.zero_add, Nat.reduceAdd, Nat.reduceLT, Nat.reduceLeDiff, List.set_cons_zero, List.set_cons_succ, if_true, Bool.false_eq_true, if_false, Bool.not_true, Bool.not_false, decide_true, decide_false, reduceCtorEq, unD_nil, unD_d, mL_r, mLB_r, mOp_r, mUn_r, mT_r, mV_r, mNot_r, mAndB_r, mOrB_r, mIte_r, maNil_r, maD_r, mF_r, mFK_r, mQ_r, mQR_r, mRv_0, mRv_s, mAndV_r, mOrV_r, mNotV_r, mNext_r, mIf_r, mSet_r, mOwn_r, mAny_r, mAsg_r, mRet_r, List.cons_append, List.nil_append, List.append_nil, ctw, ww, y0, y1, z0, z1, l2, ew2]
end Lw
open PySem PySem.W PyProof.Rows
set_option maxHeartbeats 0 in
theorem PySem.Challenge.cw_quirekiln_k33_weight_of_a_selector_holds : PySem.Challenge.rw_quirekiln_k33_weight_of_a_selector.Holds := by
  w_on; o_law; k_head; (case hw => w_witness2)
  k_fill
  refine DV.walk_T (l := PySem.Challenge.rw_quirekiln_k33_weight_of_a_selector) (n := 63) (k := 5) (x := "script") (CX := fun _ => L2.CX0) rfl (by decide) rfl ⟨rfl, by decide, by decide⟩ (fun w h Y => PySem.W.kIn_of Y) ?F (fun _ _ _ _ _ h => h)
  case F =>
    intro w mg mb mean lo fa h T KX G hmg
    refine' Lw.all_mk T KX G hmg ?a0 ?l0 ?c0 ?k0 ?a1 ?l1 ?c1 ?k1 ?a2 ?l2 ?c2 ?k2 ?a3 ?l3 ?c3 ?k3 ?a4 ?l4 ?c4 ?k4 ?a5 ?l5 ?c5 ?k5 ?a6 ?l6 ?c6 ?k6 ?a7 ?l7 ?c7 ?k7 ?a8 ?l8 ?c8 ?k8 ?tl8 ?tv8 ?tn8 ?tr8 ?a9 ?l9 ?c9 ?k9 ?a10 ?l10 ?c10 ?k10 ?a11 ?l11 ?c11 ?k11 ?a12 ?l12 ?c12 ?k12 ?z_int ?z_len ?z_range ?z_tuple ?z_sum ?z_bool ?z_isinstance ?z_all ?z_str ?z_enumerate ?z_list ?c_MOST_SELECTOR ?c_MOST_STEPS ?LT
    (case a0 => k_is); (case l0 => k_is); (case c0 => k_is); (case k0 => k_is); (case a1 => k_is); (case l1 => k_is); (case c1 => k_is); (case k1 => k_is); (case a2 => k_is); (case l2 => k_is); (case c2 => k_is); (case k2 => k_is); (case a3 => k_is); (case l3 => k_is); (case c3 => k_is); (case k3 => k_is); (case a4 => k_is); (case l4 => k_is); (case c4 => k_is); (case k4 => k_is); (case a5 => k_is); (case l5 => k_is); (case c5 => k_is); (case k5 => k_is); (case a6 => k_is); (case l6 => k_is); (case c6 => k_is); (case k6 => k_is); (case a7 => k_is); (case l7 => k_is); (case c7 => k_is); (case k7 => k_is); (case a8 => k_is); (case l8 => k_is); (case c8 => k_is); (case k8 => k_is); (case tl8 => k_is); (case tv8 => rfl); (case tn8 => kernel_rfl); (case tr8 => kernel_rfl); (case a9 => k_is); (case l9 => k_is); (case c9 => k_is); (case k9 => k_is); (case a10 => k_is); (case l10 => k_is); (case c10 => k_is); (case k10 => k_is); (case a11 => k_is); (case l11 => k_is); (case c11 => k_is); (case k11 => k_is); (case a12 => k_is); (case l12 => k_is); (case c12 => k_is); (case k12 => k_is); (case z_int => k_is); (case z_len => k_is); (case z_range => k_is); (case z_tuple => k_is); (case z_sum => k_is); (case z_bool => k_is); (case z_isinstance => k_is); (case z_all => k_is); (case z_str => k_is); (case z_enumerate => k_is); (case z_list => k_is); (case c_MOST_SELECTOR => k_is); (case c_MOST_STEPS => k_is); (case LT => exact Lw.law_true)
