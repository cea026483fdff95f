import PyProof.Rows.All
import Wide.All
import OpenK.AllK
import Wide.FinOn
import HandS.Base
import HandS.Call
import HandS.List
import HandS.Comp
import HandS.Ends
import HandS.Dict
import HandS.Iter
import HandS.Text
import HandS.Words
import HandS.WordsList
import HandS.Wide
import HandS.Flow
import HandS.Style
import HandS.IsInst
import HandS.More
import HandS.Deep
import HandS.Codes
import HandS.StrMore
import HandS.Defaults
import HandS.MakeKwOnly
import HandS.EndBits
import PySem.Challenge.RW_quirekiln_k16_places_of_a_full_line
set_option Elab.async false
set_option linter.all false
set_option maxRecDepth 100000
set_option maxHeartbeats 4000000
namespace DV
open PySem L2

/-! ### heaps that grow -/
def Ex (H H' : Hp) : Prop := ∀ a o, H a = some o → H' a = some o
theorem Ex.refl (H : Hp) : Ex H H := fun _ _ h => h
theorem Ex.trans {H H1 H2 : Hp} (a : Ex H H1) (b : Ex H1 H2) : Ex H H2 := fun x o h => b x o (a x o h)
theorem Ex.new {H : Hp} {p : Addr} {o : HO} (h : H p = none) : Ex H (upd H p o) := fun a u e => by
  rw [upd_ne (ne_of_none e h)]; exact e
/-- an object that H does not know may change -/
theorem Ex.mut {H H' : Hp} {p : Addr} {o : HO} (e : Ex H H') (h : H p = none) : Ex H (upd H' p o) := fun a u ha => by
  rw [upd_ne (ne_of_none ha h)]; exact e a u ha
theorem Ex.upd2 {H H' : Hp} {p : Addr} {o : HO} (e : Ex H H') : Ex (upd H p o) (upd H' p o) := fun a u ha => by
  by_cases h : a = p
  · subst h; rw [upd_same] at ha ⊢; exact ha
  · rw [upd_ne h] at ha ⊢; exact e a u ha
theorem Ex.back {H H' : Hp} {p : Addr} (e : Ex H H') (h : H' p = none) : H p = none := by
  cases h1 : H p with
  | none => rfl
  | some o => rw [e p o h1] at h; cases h
theorem Ex.rd {H H' : Hp} {a : Addr} {u : HO} (e : Ex H H') (h : Rd H a u) : Rd H' a u := by
  rcases h with h | ⟨o, h⟩
  · exact Or.inl (e a _ h)
  · exact Or.inr ⟨o, e a _ h⟩
theorem Ex.sql {K : PySem.W.Frag} {H H' : Hp} {a : Addr} {xs : List V} (e : Ex H H') (h : SqL K H a xs) : SqL K H' a xs := h.imp e.rd id
theorem Ex.sqt {K : PySem.W.Frag} {H H' : Hp} {a : Addr} {xs : List V} (e : Ex H H') (h : SqT K H a xs) : SqT K H' a xs := h.imp e.rd id

/-! ### deep values -/
/-- the keys of a dict as data -/
def keyD : Key → PyData
  | .inl i => .int i
  | .inr x => .str x
def keysD (ks : List Key) : PyData := .tuple (ks.map keyD)
mutual
inductive Rep (K : PySem.W.Frag) (G : Hp) : PyData → V → Prop
  | non : Rep K G .none .non
  | bl (b : Bool) : Rep K G (.bool b) (.bl b)
  | int (i : Int) : Rep K G (.int i) (.int i)
  | str (x : Str) : Rep K G (.str x) (.str x)
  | lst {a : Addr} {vs : List V} {ds : List PyData} : Rd G a (.lst vs) → RepA K G ds vs → Rep K G (.list ds) (.ref a)
  | tup {a : Addr} {vs : List V} {ds : List PyData} : SqT K G a vs → RepA K G ds vs → Rep K G (.tuple ds) (.ref a)
  | dK {a : Addr} {ks : List (Key × V)} {es : List (PyData × PyData)} : Rd G a (.dK ks) → es.map (·.1) = ks.map (fun p => keyD p.1) → RepA K G (es.map (·.2)) (ks.map (·.2)) → Rep K G (.dict es) (.ref a)
  | dT {a : Addr} {ks : List (List Key × V)} {es : List (PyData × PyData)} : Rd G a (.dT ks) → es.map (·.1) = ks.map (fun p => keysD p.1) → RepA K G (es.map (·.2)) (ks.map (·.2)) → Rep K G (.dict es) (.ref a)
inductive RepA (K : PySem.W.Frag) (G : Hp) : List PyData → List V → Prop
  | nil : RepA K G [] []
  | cons {d : PyData} {ds : List PyData} {v : V} {vs : List V} : Rep K G d v → RepA K G ds vs → RepA K G (d :: ds) (v :: vs)
end
section
variable {K : PySem.W.Frag} {G G' H : Hp}
mutual
theorem Rep.mono (e : Ex G G') : ∀ {d : PyData} {v : V}, Rep K G d v → Rep K G' d v
  | _, _, .non => .non
  | _, _, .bl b => .bl b
  | _, _, .int i => .int i
  | _, _, .str x => .str x
  | _, _, .lst h r => .lst (e.rd h) (RepA.mono e r)
  | _, _, .tup h r => .tup (e.sqt h) (RepA.mono e r)
  | _, _, .dK h k r => .dK (e.rd h) k (RepA.mono e r)
  | _, _, .dT h k r => .dT (e.rd h) k (RepA.mono e r)
theorem RepA.mono (e : Ex G G') : ∀ {ds : List PyData} {vs : List V}, RepA K G ds vs → RepA K G' ds vs
  | _, _, .nil => .nil
  | _, _, .cons h r => .cons (Rep.mono e h) (RepA.mono e r)
end
theorem RepA.len : ∀ {ds : List PyData} {vs : List V}, RepA K G ds vs → ds.length = vs.length
  | _, _, .nil => rfl
  | _, _, .cons _ r => congrArg (· + 1) r.len
theorem RepA.get : ∀ {ds : List PyData} {vs : List V} {i : Nat} {d : PyData}, RepA K G ds vs → ds[i]? = some d → ∃ v, vs[i]? = some v ∧ Rep K G d v
  | _, _, _, _, .nil, e => by simp at e
  | _, _, 0, _, .cons h _, e => by simp at e; subst e; exact ⟨_, rfl, h⟩
  | _, _, i + 1, d, .cons _ r, e => by
    obtain ⟨v, h1, h2⟩ := RepA.get (i := i) (d := d) r (by simpa using e)
    exact ⟨v, by simpa using h1, h2⟩
theorem RepA.getV {ds : List PyData} {vs : List V} {i : Nat} {v : V} (r : RepA K G ds vs) (e : vs[i]? = some v) : ∃ d, ds[i]? = some d ∧ Rep K G d v := by
  have hi := (List.getElem?_eq_some_iff.mp e).1
  rw [← r.len] at hi
  obtain ⟨w, h1, h2⟩ := r.get (List.getElem?_eq_getElem hi)
  rw [e] at h1; cases h1
  exact ⟨_, List.getElem?_eq_getElem hi, h2⟩
theorem RepA.app : ∀ {ds es : List PyData} {vs us : List V}, RepA K G ds vs → RepA K G es us → RepA K G (ds ++ es) (vs ++ us)
  | _, _, _, _, .nil, s => s
  | _, _, _, _, .cons h r, s => .cons h (RepA.app r s)
theorem RepA.take : ∀ {ds : List PyData} {vs : List V} (n : Nat), RepA K G ds vs → RepA K G (ds.take n) (vs.take n)
  | _, _, 0, _ => .nil
  | _, _, _ + 1, .nil => .nil
  | _, _, n + 1, .cons h r => .cons h (RepA.take n r)
theorem RepA.drop : ∀ {ds : List PyData} {vs : List V} (n : Nat), RepA K G ds vs → RepA K G (ds.drop n) (vs.drop n)
  | _, _, 0, r => r
  | _, _, _ + 1, .nil => .nil
  | _, _, n + 1, .cons _ r => RepA.drop n r
theorem RepA.set : ∀ {ds : List PyData} {vs : List V} {d : PyData} {v : V} (i : Nat), RepA K G ds vs → Rep K G d v → RepA K G (ds.set i d) (vs.set i v)
  | _, _, _, _, _, .nil, _ => .nil
  | _, _, _, _, 0, .cons _ r, h => .cons h r
  | _, _, _, _, i + 1, .cons q r, h => .cons q (RepA.set i r h)
theorem RepA.reverse {ds : List PyData} {vs : List V} (r : RepA K G ds vs) : RepA K G ds.reverse vs.reverse := by
  induction ds generalizing vs with
  | nil => cases r; exact .nil
  | cons d ds ih =>
    cases r with
    | cons h r =>
      rw [List.reverse_cons, List.reverse_cons]
      exact (ih r).app (.cons h .nil)
/-- data made of ints -/
theorem RepA.ints (ns : List Int) : RepA K G (ns.map .int) (ns.map V.int) := by
  induction ns with
  | nil => exact .nil
  | cons n r ih => exact .cons (.int n) ih
theorem RepA.ofInts : ∀ {ns : List Int} {vs : List V}, RepA K G (ns.map .int) vs → vs = ns.map V.int
  | [], _, .nil => rfl
  | n :: r, _, .cons h t => by
    cases h
    rw [RepA.ofInts t]; rfl
theorem RepA.ofStrs : ∀ {ns : List Str} {vs : List V}, RepA K G (ns.map .str) vs → vs = ns.map V.str
  | [], _, .nil => rfl
  | n :: r, _, .cons h t => by
    cases h
    rw [RepA.ofStrs t]; rfl
theorem RepA.strs (ns : List Str) : RepA K G (ns.map .str) (ns.map V.str) := by
  induction ns with
  | nil => exact .nil
  | cons n r ih => exact .cons (.str n) ih

/-- what is read now: its root may be somebody's own -/
inductive RepB (K : PySem.W.Frag) (G H : Hp) : PyData → V → Prop
  | val {d : PyData} {v : V} : Rep K G d v → RepB K G H d v
  | lst {a : Addr} {vs : List V} {ds : List PyData} : H a = some (.lst vs) → RepA K G ds vs → RepB K G H (.list ds) (.ref a)
  | dK {a : Addr} {ks : List (Key × V)} {es : List (PyData × PyData)} : H a = some (.dK ks) → es.map (·.1) = ks.map (fun p => keyD p.1) → RepA K G (es.map (·.2)) (ks.map (·.2)) → RepB K G H (.dict es) (.ref a)
  | dT {a : Addr} {ks : List (List Key × V)} {es : List (PyData × PyData)} : H a = some (.dT ks) → es.map (·.1) = ks.map (fun p => keysD p.1) → RepA K G (es.map (·.2)) (ks.map (·.2)) → RepB K G H (.dict es) (.ref a)
theorem RepB.mono {H' : Hp} (e : Ex G G') (e2 : Ex H H') {d : PyData} {v : V} (h : RepB K G H d v) : RepB K G' H' d v := by
  cases h with
  | val h => exact .val (h.mono e)
  | lst h r => exact .lst (e2 _ _ h) (r.mono e)
  | dK h k r => exact .dK (e2 _ _ h) k (r.mono e)
  | dT h k r => exact .dT (e2 _ _ h) k (r.mono e)

/-- the script, a list of ints that is read alone -/
def RepS (K : PySem.W.Frag) (H : Hp) (d : PyData) (v : V) : Prop := ∃ (a : Addr) (ns : List Int), v = .ref a ∧ d = .list (ns.map .int) ∧ SqL K H a (ns.map V.int)
theorem RepS.mono {H' : Hp} (e : Ex H H') {d : PyData} {v : V} (h : RepS K H d v) : RepS K H' d v := by
  obtain ⟨a, ns, e1, e2, q⟩ := h
  exact ⟨a, ns, e1, e2, e.sql q⟩
/-- what an own root holds -/
inductive Own (K : PySem.W.Frag) (G H : Hp) (a : Addr) : PyData → Prop
  | lst {vs : List V} {ds : List PyData} : H a = some (.lst vs) → RepA K G ds vs → Own K G H a (.list ds)
  | dK {ks : List (Key × V)} {es : List (PyData × PyData)} : H a = some (.dK ks) → es.map (·.1) = ks.map (fun p => keyD p.1) → RepA K G (es.map (·.2)) (ks.map (·.2)) → Own K G H a (.dict es)
  | dT {ks : List (List Key × V)} {es : List (PyData × PyData)} : H a = some (.dT ks) → es.map (·.1) = ks.map (fun p => keysD p.1) → RepA K G (es.map (·.2)) (ks.map (·.2)) → Own K G H a (.dict es)
theorem Own.mono {H' : Hp} {a : Addr} (e : Ex G G') (e2 : H' a = H a) {d : PyData} (h : Own K G H a d) : Own K G' H' a d := by
  cases h with
  | lst h r => exact .lst (e2.trans h) (r.mono e)
  | dK h k r => exact .dK (e2.trans h) k (r.mono e)
  | dT h k r => exact .dT (e2.trans h) k (r.mono e)
theorem Own.there {a : Addr} {d : PyData} (h : Own K G H a d) : ∃ o, H a = some o := by
  cases h with
  | lst h r => exact ⟨_, h⟩
  | dK h k r => exact ⟨_, h⟩
  | dT h k r => exact ⟨_, h⟩
theorem Own.bor {a : Addr} {d : PyData} (h : Own K G H a d) : RepB K G H d (.ref a) := by
  cases h with
  | lst h r => exact .lst h r
  | dK h k r => exact .dK h k r
  | dT h k r => exact .dT h k r
/-- frozen: the root goes over to G -/
theorem Own.freeze {a : Addr} {d : PyData} (h : Own K G H a d) (n : G a = none) : ∃ o, H a = some o ∧ Rep K (upd G a o) d (.ref a) := by
  cases h with
  | lst h r => exact ⟨_, h, .lst (.inl upd_same) (r.mono (Ex.new n))⟩
  | dK h k r => exact ⟨_, h, .dK (.inl upd_same) k (r.mono (Ex.new n))⟩
  | dT h k r => exact ⟨_, h, .dT (.inl upd_same) k (r.mono (Ex.new n))⟩
end

/-! ### slots -/
inductive Slot where
  | un | val (d : PyData) | bor (d : PyData) | own (d : PyData) | scr (d : PyData) | pin (d : PyData)
abbrev Rho := List Slot
inductive Out where
  | nx (r : Rho) | rt (d : PyData) | bk (r : Rho) | ct (r : Rho)
abbrev SE := Rho → Option PyData
abbrev SB := Rho → Option Bool
abbrev SA := Rho → Option (List PyData)
abbrev SS := Rho → Option Out

/-- how the heaps grow within a call: G0, H0 at its entry -/
structure Gx (G0 H0 G H : Hp) : Prop where
  g : Ex G0 G
  h : Ex H0 H
  gh : Ex G H
  nw : ∀ a, G a ≠ none → G0 a ≠ none ∨ H0 a = none
/-- a call's start: its ghost heap, and the lists that are lent to a loop, by slot -/
structure Fr where
  g : Hp
  b : Hp
  pin : Nat → Option (Addr × List V)
inductive SlotOk (K : PySem.W.Frag) (B H0 G H : Hp) : Slot → Option V → Prop
  | un {v : Option V} : SlotOk K B H0 G H .un v
  | val {d : PyData} {v : V} : Rep K G d v → SlotOk K B H0 G H (.val d) (some v)
  | bor {d : PyData} {v : V} : RepB K G B d v → SlotOk K B H0 G H (.bor d) (some v)
  | own {d : PyData} {a : Addr} : H0 a = none → G a = none → Own K G H a d → SlotOk K B H0 G H (.own d) (some (.ref a))
  | scr {d : PyData} {v : V} : RepS K B d v → SlotOk K B H0 G H (.scr d) (some v)
  | pin {d : PyData} {v : Option V} : SlotOk K B H0 G H (.pin d) v
structure Sok (K : PySem.W.Frag) (G0 : Fr) (H0 G : Hp) (ρ : Rho) (σ : St) (H : Hp) : Prop where
  gx : Gx G0.g H0 G H
  len : σ.length = ρ.length
  slot : ∀ (i : Nat) (s : Slot), ρ[i]? = some s → SlotOk K G0.b H0 G H s (σ[i]?.getD none)
  apart : ∀ (i j : Nat) (d e : PyData) (a : Addr), i ≠ j → ρ[i]? = some (.own d) → ρ[j]? = some (.own e) → σ[i]? = some (some (.ref a)) → σ[j]? ≠ some (some (.ref a))
  pins : ∀ (i : Nat) (d : PyData), ρ[i]? = some (.pin d) → ∃ a vs ds, G0.pin i = some (a, vs) ∧ σ[i]? = some (some (.ref a)) ∧ d = .list ds ∧ RepA K G ds vs
  base : Ex G0.b H0
  wf : ∀ (i : Nat) (a : Addr) (vs : List V), G0.pin i = some (a, vs) → H0 a = some (.lst vs)
section
variable {K : PySem.W.Frag} {G0 : Fr} {H0 G H G' H' : Hp} {ρ : Rho} {σ : St}
theorem getD_some {σ : L2.St} {i : Nat} {v : V} (h : σ[i]?.getD none = some v) : σ[i]? = some (some v) := by
  cases e : σ[i]? with
  | none => rw [e] at h; cases h
  | some o => rw [e] at h; exact congrArg _ h
/-- the heaps have grown, the slots are as they were -/
theorem Sok.grow (s : Sok K G0 H0 G ρ σ H) (e : Ex G G') (e2 : Ex H H') (e3 : Ex G' H') (nw : ∀ a, G' a ≠ none → G a ≠ none ∨ H a = none) : Sok K G0 H0 G' ρ σ H' := by
  refine ⟨⟨s.gx.g.trans e, s.gx.h.trans e2, e3, fun a ha => ?_⟩, s.len, fun i q hi => ?_, s.apart, fun i d hi => (s.pins i d hi).imp fun a h => h.imp fun vs h => h.imp fun ds ⟨p1, p2, p3, p4⟩ => ⟨p1, p2, p3, p4.mono e⟩, s.base, s.wf⟩
  · rcases nw a ha with h | h
    · exact s.gx.nw a h
    · exact .inr (s.gx.h.back h)
  · have h := s.slot i q hi
    revert h
    generalize σ[i]?.getD none = w
    intro h
    cases h with
    | un => exact .un
    | val h => exact .val (h.mono e)
    | bor h => exact .bor (h.mono e (Ex.refl _))
    | scr h => exact .scr h
    | pin => exact .pin
    | own h1 h2 h3 =>
      obtain ⟨o, ho⟩ := h3.there
      refine .own h1 ?_ (h3.mono e ((e2 _ _ ho).trans ho.symm))
      cases q : G' _ with
      | none => rfl
      | some u =>
        rcases nw _ (by rw [q]; simp) with z | z
        · exact absurd h2 z
        · rw [ho] at z; cases z
theorem Gx.refl (e : Ex G H) : Gx G H G H := ⟨Ex.refl _, Ex.refl _, e, fun _ h => .inl h⟩
theorem Gx.trans {G1 H1 G2 H2 G3 H3 : Hp} (a : Gx G1 H1 G2 H2) (b : Gx G2 H2 G3 H3) : Gx G1 H1 G3 H3 :=
  ⟨a.g.trans b.g, a.h.trans b.h, b.gh, fun x hx => (b.nw x hx).elim (a.nw x) fun z => .inr (a.h.back z)⟩
theorem Sok.gx' (s : Sok K G0 H0 G ρ σ H) (x : Gx G H G' H') : Sok K G0 H0 G' ρ σ H' := s.grow x.g x.h x.gh x.nw
/-- a new object that goes to G -/
theorem Gx.new {p : Addr} {o : HO} (e : Ex G H) (n : H p = none) : Gx G H (upd G p o) (upd H p o) := by
  have n2 := e.back n
  refine ⟨Ex.new n2, Ex.new n, e.upd2, fun a ha => ?_⟩
  by_cases q : a = p
  · subst q; exact .inr n
  · rw [upd_ne q] at ha; exact .inl ha
/-- a new object that is nobody's yet -/
theorem Gx.mine {p : Addr} {o : HO} (e : Ex G H) (n : H p = none) : Gx G H G (upd H p o) := ⟨Ex.refl _, Ex.new n, e.trans (Ex.new n), fun _ h => .inl h⟩
end

/-! ### what an expression gives -/
inductive Md where
  | val | par | bor | new | scr
  deriving DecidableEq
def RM (K : PySem.W.Frag) (H0 Hs : Hp) : Md → Hp → Hp → PyData → V → Prop
  | .val, G, _, d, v => Rep K G d v
  | .par, G, _, d, v => RepB K G H0 d v
  | .bor, G, H, d, v => RepB K G H d v
  | .new, G, H, d, v => ∃ p, v = .ref p ∧ Hs p = none ∧ G p = none ∧ Own K G H p d
  | .scr, _, H, d, v => RepS K H d v
section
variable {K : PySem.W.Frag} {G9 H0 G H G' H' Hs : Hp} {G0 : Fr} {ρ : Rho} {σ : L2.St} {d : PyData} {v : V}
theorem RM.mono {m : Md} (x : Gx G H G' H') (h : RM K H0 Hs m G H d v) : RM K H0 Hs m G' H' d v := by
  cases m with
  | val => exact Rep.mono x.g h
  | par => exact RepB.mono x.g (Ex.refl _) h
  | bor => exact RepB.mono x.g x.h h
  | scr => exact RepS.mono x.h h
  | new =>
    obtain ⟨p, e, n, g, o⟩ := h
    obtain ⟨u, hu⟩ := o.there
    refine ⟨p, e, n, ?_, o.mono x.g ((x.h _ _ hu).trans hu.symm)⟩
    cases q : G' p with
    | none => rfl
    | some w =>
      rcases x.nw p (by rw [q]; simp) with z | z
      · exact absurd g z
      · rw [hu] at z; cases z
theorem RM.start {m : Md} {H1 : Hp} (e : Ex H1 Hs) (h : RM K H0 Hs m G H d v) : RM K H0 H1 m G H d v := by
  cases m with
  | val => exact h
  | par => exact h
  | bor => exact h
  | scr => exact h
  | new =>
    obtain ⟨p, e1, n, g, o⟩ := h
    exact ⟨p, e1, e.back n, g, o⟩
theorem RM.bor {m : Md} (hm : m ≠ .scr) (e : Ex H0 H) (h : RM K H0 Hs m G H d v) : RepB K G H d v := by
  cases m with
  | val => exact .val h
  | par => exact RepB.mono (Ex.refl _) e h
  | bor => exact h
  | scr => exact absurd rfl hm
  | new =>
    obtain ⟨p, rfl, n, g, o⟩ := h
    exact o.bor
/-- frozen: a new one goes over to G -/
theorem RM.freeze (x : Gx G9 Hs G H) (h : RM K H0 Hs .new G H d v) : ∃ G', Gx G9 Hs G' H ∧ Ex G G' ∧ Rep K G' d v := by
  obtain ⟨p, rfl, n, g, o⟩ := h
  obtain ⟨u, hu, r⟩ := o.freeze g
  refine ⟨_, ⟨x.g.trans (Ex.new g), x.h, fun a w hw => ?_, fun a ha => ?_⟩, Ex.new g, r⟩
  · by_cases q : a = p
    · subst q; rw [upd_same] at hw; rw [hu]; exact hw
    · rw [upd_ne q] at hw; exact x.gh a w hw
  · by_cases q : a = p
    · subst q; exact .inr n
    · rw [upd_ne q] at ha; exact x.nw a ha

/-! ### slots are stored -/
theorem getD_set {σ : L2.St} {i j : Nat} {o : Option V} (hi : i < σ.length) : (σ.set i o)[j]?.getD none = if j = i then o else σ[j]?.getD none := by
  by_cases h : j = i
  · subst h; rw [if_pos rfl, List.getElem?_set_self hi]; rfl
  · rw [if_neg h, List.getElem?_set_ne (Ne.symm h)]
theorem Sok.put (s : Sok K G0 H0 G ρ σ H) {i : Nat} {t : Slot} {o : Option V} (hi : i < ρ.length) (h : SlotOk K G0.b H0 G H t o)
    (ap : ∀ d a, t = .own d → o = some (.ref a) → ∀ j e, j ≠ i → ρ[j]? = some (.own e) → σ[j]? ≠ some (some (.ref a))) (np : ∀ d, t ≠ .pin d := by intro _ z; cases z) : Sok K G0 H0 G (ρ.set i t) (σ.set i o) H := by
  have hi' : i < σ.length := by rw [s.len]; exact hi
  refine ⟨s.gx, by rw [List.length_set, List.length_set, s.len], fun j q hj => ?_, fun j k d e a hjk h1 h2 h3 h4 => ?_, fun j d hj => ?_, s.base, s.wf⟩
  · rw [getD_set hi']
    by_cases z : j = i
    · subst z
      rw [List.getElem?_set_self hi] at hj
      cases hj
      rw [if_pos rfl]; exact h
    · rw [List.getElem?_set_ne (Ne.symm z)] at hj
      rw [if_neg z]; exact s.slot j q hj
  · by_cases z : j = i
    · subst z
      rw [List.getElem?_set_self hi] at h1
      cases h1
      rw [List.getElem?_set_self hi'] at h3
      cases h3
      rw [List.getElem?_set_ne (fun z => hjk z)] at h2 h4
      exact ap d a rfl rfl k e (fun z => hjk z.symm) h2 h4
    · rw [List.getElem?_set_ne (Ne.symm z)] at h1 h3
      by_cases y : k = i
      · subst y
        rw [List.getElem?_set_self hi] at h2
        cases h2
        rw [List.getElem?_set_self hi'] at h4
        cases h4
        exact ap e a rfl rfl j d z h1 h3
      · rw [List.getElem?_set_ne (Ne.symm y)] at h2 h4
        exact s.apart j k d e a hjk h1 h2 h3 h4
  · by_cases z : j = i
    · subst z
      rw [List.getElem?_set_self hi] at hj
      cases hj
      exact absurd rfl (np d)
    · rw [List.getElem?_set_ne (Ne.symm z)] at hj ⊢
      exact s.pins j d hj
theorem Sok.setVal (s : Sok K G0 H0 G ρ σ H) {i : Nat} (hi : i < ρ.length) (h : Rep K G d v) : Sok K G0 H0 G (ρ.set i (.val d)) (σ.set i (some v)) H :=
  s.put hi (.val h) fun _ _ e => by cases e
theorem Sok.setUn (s : Sok K G0 H0 G ρ σ H) {i : Nat} (hi : i < ρ.length) (o : Option V) : Sok K G0 H0 G (ρ.set i .un) (σ.set i o) H :=
  s.put hi .un fun _ _ e => by cases e
/-- the root of an own slot -/
theorem Sok.own (s : Sok K G0 H0 G ρ σ H) {i : Nat} (h : ρ[i]? = some (.own d)) : ∃ a, σ[i]? = some (some (.ref a)) ∧ H0 a = none ∧ G a = none ∧ Own K G H a d := by
  have q := s.slot i _ h
  generalize e : σ[i]?.getD none = w at q
  cases q with
  | own h1 h2 h3 => exact ⟨_, getD_some e, h1, h2, h3⟩
theorem Sok.setOwn (s : Sok K G0 H0 G ρ σ H) (x : Gx G H G' H') {i : Nat} (hi : i < ρ.length) (h : RM K H0 H .new G' H' d v) : Sok K G0 H0 G' (ρ.set i (.own d)) (σ.set i (some v)) H' := by
  obtain ⟨p, rfl, n, g, o⟩ := h
  refine (s.gx' x).put hi (.own (s.gx.h.back n) g o) fun d' a e1 e2 j e hj h1 h2 => ?_
  cases e2
  obtain ⟨b, k1, _, _, k4⟩ := s.own h1
  obtain ⟨u, hu⟩ := k4.there
  rw [h2] at k1; cases k1
  rw [n] at hu; cases hu
/-- an own object changes -/
theorem Sok.write (s : Sok K G0 H0 G ρ σ H) {i : Nat} {a : Addr} {o : HO} {d' : PyData} (h : ρ[i]? = some (.own d)) (ha : σ[i]? = some (some (.ref a))) (hn : H0 a = none) (hg : G a = none) (ow : Own K G (upd H a o) a d') : Sok K G0 H0 G (ρ.set i (.own d')) σ (upd H a o) := by
  have hi : i < ρ.length := (List.getElem?_eq_some_iff.mp h).1
  refine ⟨⟨s.gx.g, s.gx.h.mut hn, s.gx.gh.mut hg, s.gx.nw⟩, by rw [List.length_set]; exact s.len, fun j q hj => ?_, fun j k d1 e b hjk h1 h2 h3 h4 => ?_, fun j d hj => ?_, s.base, s.wf⟩
  · by_cases z : j = i
    · subst z
      rw [List.getElem?_set_self hi] at hj
      cases hj
      rw [ha]
      exact .own hn hg ow
    · rw [List.getElem?_set_ne (Ne.symm z)] at hj
      have q2 := s.slot j q hj
      generalize e : σ[j]?.getD none = w at q2
      cases q2 with
      | un => exact .un
      | val h => exact .val h
      | bor h => exact .bor h
      | scr h => exact .scr h
      | pin => exact .pin
      | own k1 k2 k3 =>
        refine .own k1 k2 (k3.mono (Ex.refl _) ?_)
        rw [upd_ne]
        rintro rfl
        exact s.apart i j _ _ _ (fun z' => z z'.symm) h hj ha (getD_some e)
  · have own_of : ∀ {j : Nat} {e : PyData}, (ρ.set i (.own d'))[j]? = some (.own e) → ∃ e', ρ[j]? = some (.own e') := fun {j e} q => by
      by_cases z : j = i
      · subst z; exact ⟨_, h⟩
      · rw [List.getElem?_set_ne (Ne.symm z)] at q; exact ⟨_, q⟩
    obtain ⟨_, q1⟩ := own_of h1
    obtain ⟨_, q2⟩ := own_of h2
    exact s.apart j k _ _ b hjk q1 q2 h3 h4
  · by_cases z : j = i
    · subst z
      rw [List.getElem?_set_self hi] at hj; cases hj
    · rw [List.getElem?_set_ne (Ne.symm z)] at hj; exact s.pins j d hj
/-- an own object is frozen -/
theorem Sok.freeze (s : Sok K G0 H0 G ρ σ H) {i : Nat} (h : ρ[i]? = some (.own d)) : ∃ G', Gx G0.g H0 G' H ∧ Ex G G' ∧ Sok K G0 H0 G' (ρ.set i (.val d)) σ H := by
  have hi : i < ρ.length := (List.getElem?_eq_some_iff.mp h).1
  obtain ⟨a, ha, hn, hg, ow⟩ := s.own h
  obtain ⟨u, hu, r⟩ := ow.freeze hg
  have gx : Gx G0.g H0 (upd G a u) H := ⟨s.gx.g.trans (Ex.new hg), s.gx.h, fun b w hw => by
    by_cases q : b = a
    · subst q; rw [upd_same] at hw; rw [hu]; exact hw
    · rw [upd_ne q] at hw; exact s.gx.gh b w hw, fun b hb => by
    by_cases q : b = a
    · subst q; exact .inr hn
    · rw [upd_ne q] at hb; exact s.gx.nw b hb⟩
  refine ⟨_, gx, Ex.new hg, gx, by rw [List.length_set]; exact s.len, fun j q hj => ?_, fun j k d1 e b hjk h1 h2 h3 h4 => ?_, fun j d hj => ?_, s.base, s.wf⟩
  · by_cases z : j = i
    · subst z
      rw [List.getElem?_set_self hi] at hj
      cases hj
      rw [ha]
      exact .val r
    · rw [List.getElem?_set_ne (Ne.symm z)] at hj
      have q2 := s.slot j q hj
      generalize e : σ[j]?.getD none = w at q2
      cases q2 with
      | un => exact .un
      | val h => exact .val (h.mono (Ex.new hg))
      | bor h => exact .bor (h.mono (Ex.new hg) (Ex.refl _))
      | scr h => exact .scr h
      | pin => exact .pin
      | @own d2 c k1 k2 k3 =>
        refine .own k1 ?_ (k3.mono (Ex.new hg) rfl)
        rw [upd_ne]
        · exact k2
        · rintro rfl
          exact s.apart i j _ _ _ (fun z' => z z'.symm) h hj ha (getD_some e)
  · have own_of : ∀ {j : Nat} {e : PyData}, (ρ.set i (.val d))[j]? = some (.own e) → ρ[j]? = some (.own e) := fun {j e} q => by
      by_cases z : j = i
      · subst z; rw [List.getElem?_set_self hi] at q; cases q
      · rw [List.getElem?_set_ne (Ne.symm z)] at q; exact q
    exact s.apart j k _ _ b hjk (own_of h1) (own_of h2) h3 h4
  · by_cases z : j = i
    · subst z
      rw [List.getElem?_set_self hi] at hj; cases hj
    · rw [List.getElem?_set_ne (Ne.symm z)] at hj; exact (s.pins j d hj).imp fun a h => h.imp fun vs h => h.imp fun ds ⟨p1, p2, p3, p4⟩ => ⟨p1, p2, p3, p4.mono (Ex.new hg)⟩
end
end DV

namespace DV
open PySem L2
theorem _root_.L2.PE.imp {X : Cx} {e : Expr} {t t' : TE} (h : PE X e t) (w : ∀ σ H Q, t' σ H Q → t σ H Q) : PE X e t' := ⟨fun pins s σ H Q I q => h.run pins s σ H Q I (w σ H Q q)⟩
theorem _root_.L2.PT.imp {X : Cx} {e : Expr} {t t' : TT} (h : PT X e t) (w : ∀ σ H Q, t' σ H Q → t σ H Q) : PT X e t' := ⟨fun pins s σ H Q I q => h.run pins s σ H Q I (w σ H Q q)⟩
theorem _root_.L2.PW.imp {X : Cx} {e : Expr} {t t' : TT} (h : PW X e t) (w : ∀ σ H Q, t' σ H Q → t σ H Q) : PW X e t' := ⟨fun wh pins s σ H Q I q => h.run wh pins s σ H Q I (w σ H Q q)⟩
theorem _root_.L2.PA.imp {X : Cx} {e : List Expr} {t t' : TA} (h : PA X e t) (w : ∀ σ H Q, t' σ H Q → t σ H Q) : PA X e t' := ⟨fun pos pins s σ H Q I q => h.run pos pins s σ H Q I (w σ H Q q)⟩
theorem _root_.L2.PS.imp {X : Cx} {e : Stmt} {t t' : TS} (h : PS X e t) (w : ∀ D σ H, t' D σ H → t D σ H) : PS X e t' := ⟨fun pins s σ H D I q => h.run pins s σ H D I (w D σ H q)⟩
theorem _root_.L2.PSs.imp {X : Cx} {e : List Stmt} {t t' : TS} (h : PSs X e t) (w : ∀ D σ H, t' D σ H → t D σ H) : PSs X e t' := ⟨fun pins s σ H D I q => h.run pins s σ H D I (w D σ H q)⟩

/-! ### expressions, tests, arguments -/
def tE (K : PySem.W.Frag) (m : Md) (f : SE) : TE := fun σ H Q => ∃ G0 H0 G ρ d, Sok K G0 H0 G ρ σ H ∧ f ρ = some d ∧ ∀ G' H' v, Gx G H G' H' → RM K H0 H m G' H' d v → Q v H'
def tT (K : PySem.W.Frag) (f : SB) : TT := fun σ H Q => ∃ G0 H0 G ρ d, Sok K G0 H0 G ρ σ H ∧ f ρ = some d ∧ ∀ G' H', Gx G H G' H' → Q d H'
inductive RMs (K : PySem.W.Frag) (H0 Hs G H : Hp) : List Md → List PyData → List V → Prop
  | nil : RMs K H0 Hs G H [] [] []
  | cons {m : Md} {ms : List Md} {d : PyData} {ds : List PyData} {v : V} {vs : List V} : RM K H0 Hs m G H d v → RMs K H0 Hs G H ms ds vs → RMs K H0 Hs G H (m :: ms) (d :: ds) (v :: vs)
def tA (K : PySem.W.Frag) (ms : List Md) (f : SA) : TA := fun σ H Q => ∃ G0 H0 G ρ ds, Sok K G0 H0 G ρ σ H ∧ f ρ = some ds ∧ ∀ G' H' vs, Gx G H G' H' → RMs K H0 H G' H' ms ds vs → Q vs H'
structure DX (X : Cx) (m : Md) (e : Expr) (f : SE) : Prop where
  pe : PE X e (tE X.K m f)
structure DT (X : Cx) (e : Expr) (f : SB) : Prop where
  pt : PT X e (tT X.K f)
structure DW (X : Cx) (e : Expr) (f : SB) : Prop where
  pw : PW X e (tT X.K f)
structure DA (X : Cx) (ms : List Md) (es : List Expr) (f : SA) : Prop where
  pa : PA X es (tA X.K ms f)
section
variable {K : PySem.W.Frag} {G0 H0 G H G' H' Hs : Hp} {ρ : Rho} {σ : L2.St} {d : PyData} {v : V}
theorem RMs.mono (x : Gx G H G' H') : ∀ {ms : List Md} {ds : List PyData} {vs : List V}, RMs K H0 Hs G H ms ds vs → RMs K H0 Hs G' H' ms ds vs
  | _, _, _, .nil => .nil
  | _, _, _, .cons h t => .cons (h.mono x) (t.mono x)
theorem RMs.start {H1 : Hp} (e : Ex H1 Hs) : ∀ {ms : List Md} {ds : List PyData} {vs : List V}, RMs K H0 Hs G H ms ds vs → RMs K H0 H1 G H ms ds vs
  | _, _, _, .nil => .nil
  | _, _, _, .cons h t => .cons (h.start e) (t.start e)
theorem RMs.vals : ∀ {ms : List Md} {ds : List PyData} {vs : List V}, (∀ m ∈ ms, m = .val) → RMs K H0 Hs G H ms ds vs → RepA K G ds vs
  | _, _, _, _, .nil => .nil
  | m :: _, _, _, q, .cons h t => by
    have e : m = .val := q m List.mem_cons_self
    subst e
    exact .cons h (RMs.vals (fun m hm => q m (List.mem_cons_of_mem _ hm)) t)
end
section
variable {X : Cx} {e a b c : Expr} {m : Md} {f g h : SE} {pos : Pos}

/-! ### modes -/
theorem d_fz (h : DX X .new e f) : DX X .val e f := ⟨h.pe.imp fun σ H Q ⟨G0, H0, G, ρ, d, s, ed, q⟩ => ⟨G0, H0, G, ρ, d, s, ed, fun G' H' v x r => by
  obtain ⟨G2, x2, _, r2⟩ := RM.freeze x r
  exact q G2 H' v x2 r2⟩⟩
theorem d_b (h : DX X m e f) (hm : m ≠ .scr := by decide) : DX X .bor e f := ⟨h.pe.imp fun σ H Q ⟨G0, H0, G, ρ, d, s, ed, q⟩ => ⟨G0, H0, G, ρ, d, s, ed, fun G' H' v x r => q G' H' v x (r.bor hm (s.gx.h.trans x.h))⟩⟩

theorem if_some {c : Prop} [Decidable c] {α : Type} {a b : α} (h : (if c then some a else none) = some b) : c ∧ a = b := by
  split at h
  · exact ⟨by assumption, Option.some.inj h⟩
  · cases h
/-! ### names and constants -/
def eV (i : Nat) : SE := fun ρ => match ρ[i]? with
  | some (.val d) => some d
  | _ => none
def eB (i : Nat) : SE := fun ρ => match ρ[i]? with
  | some (.val d) => some d
  | some (.bor d) => some d
  | some (.own d) => some d
  | some (.pin d) => some d
  | _ => none
def eK (d : PyData) : SE := fun _ => some d
theorem d_var (i : Nat) {x : Str} {pos : Pos} (hN : X.N[i]? = some x := by rfl) (hv : Vis X.env.scope x := by first | exact Or.inl rfl | exact Or.inr (Or.inl rfl) | exact Or.inr (Or.inr rfl)) (hd : (x == ("__debug__" : Str)) = false := by decide)
    (hcd : (x == ("__classdict__" : Str)) = false := by decide) : DX X .val (.Name x pos) (eV i) := ⟨(pe_var hN hv hd hcd).imp fun σ H Q ⟨G0, H0, G, ρ, d, s, ed, q⟩ => by
  unfold eV at ed
  cases e1 : ρ[i]? with
  | none => rw [e1] at ed; cases ed
  | some t =>
    rw [e1] at ed
    have h := s.slot i t e1
    cases t with
    | val d' =>
      cases ed
      generalize e2 : σ[i]?.getD none = w at h
      cases h with
      | val h => exact ⟨_, getD_some e2, q G H _ (Gx.refl s.gx.gh) h⟩
    | un => cases ed
    | bor _ => cases ed
    | scr _ => cases ed
    | own _ => cases ed
    | pin _ => cases ed⟩
theorem d_varb (i : Nat) {x : Str} {pos : Pos} (hN : X.N[i]? = some x := by rfl) (hv : Vis X.env.scope x := by first | exact Or.inl rfl | exact Or.inr (Or.inl rfl) | exact Or.inr (Or.inr rfl)) (hd : (x == ("__debug__" : Str)) = false := by decide)
    (hcd : (x == ("__classdict__" : Str)) = false := by decide) : DX X .bor (.Name x pos) (eB i) := ⟨(pe_var hN hv hd hcd).imp fun σ H Q ⟨G0, H0, G, ρ, d, s, ed, q⟩ => by
  unfold eB at ed
  cases e1 : ρ[i]? with
  | none => rw [e1] at ed; cases ed
  | some t =>
    rw [e1] at ed
    have h := s.slot i t e1
    generalize e2 : σ[i]?.getD none = w at h
    cases t with
    | un => cases ed
    | val d' =>
      cases ed
      cases h with
      | val h => exact ⟨_, getD_some e2, q G H _ (Gx.refl s.gx.gh) (.val h)⟩
    | bor d' =>
      cases ed
      cases h with
      | bor h => exact ⟨_, getD_some e2, q G H _ (Gx.refl s.gx.gh) (h.mono (Ex.refl _) (s.base.trans s.gx.h))⟩
    | scr _ => cases ed
    | own d' =>
      cases ed
      cases h with
      | own h1 h2 h3 => exact ⟨_, getD_some e2, q G H _ (Gx.refl s.gx.gh) h3.bor⟩
    | pin d' =>
      cases ed
      obtain ⟨a, vs, ds, p1, p2, rfl, p4⟩ := s.pins i _ e1
      exact ⟨_, p2, q G H _ (Gx.refl s.gx.gh) (.lst (s.gx.h _ _ (s.wf _ _ _ p1)) p4)⟩⟩
/-- a name that holds an argument (or a frozen thing): it stays as it is through the call -/
def eP (i : Nat) : SE := fun ρ => match ρ[i]? with
  | some (.val d) => some d
  | some (.bor d) => some d
  | some (.pin d) => some d
  | _ => none
theorem d_varp (i : Nat) {x : Str} {pos : Pos} (hN : X.N[i]? = some x := by rfl) (hv : Vis X.env.scope x := by first | exact Or.inl rfl | exact Or.inr (Or.inl rfl) | exact Or.inr (Or.inr rfl)) (hd : (x == ("__debug__" : Str)) = false := by decide)
    (hcd : (x == ("__classdict__" : Str)) = false := by decide) : DX X .par (.Name x pos) (eP i) := ⟨(pe_var hN hv hd hcd).imp fun σ H Q ⟨G0, H0, G, ρ, d, s, ed, q⟩ => by
  unfold eP at ed
  cases e1 : ρ[i]? with
  | none => rw [e1] at ed; cases ed
  | some t =>
    rw [e1] at ed
    have h := s.slot i t e1
    generalize e2 : σ[i]?.getD none = w at h
    cases t with
    | un => cases ed
    | val d' =>
      cases ed
      cases h with
      | val h => exact ⟨_, getD_some e2, q G H _ (Gx.refl s.gx.gh) (.val h)⟩
    | bor d' =>
      cases ed
      cases h with
      | bor h => exact ⟨_, getD_some e2, q G H _ (Gx.refl s.gx.gh) (h.mono (Ex.refl _) s.base)⟩
    | scr _ => cases ed
    | pin d' =>
      cases ed
      obtain ⟨a, vs, ds, p1, p2, rfl, p4⟩ := s.pins i _ e1
      exact ⟨_, p2, q G H _ (Gx.refl s.gx.gh) (.lst (s.wf _ _ _ p1) p4)⟩
    | own d' => cases ed⟩
/-- the script -/
def eS (i : Nat) : SE := fun ρ => match ρ[i]? with
  | some (.scr d) => some d
  | _ => none
theorem d_vars (i : Nat) {x : Str} {pos : Pos} (hN : X.N[i]? = some x := by rfl) (hv : Vis X.env.scope x := by first | exact Or.inl rfl | exact Or.inr (Or.inl rfl) | exact Or.inr (Or.inr rfl)) (hd : (x == ("__debug__" : Str)) = false := by decide)
    (hcd : (x == ("__classdict__" : Str)) = false := by decide) : DX X .scr (.Name x pos) (eS i) := ⟨(pe_var hN hv hd hcd).imp fun σ H Q ⟨G0, H0, G, ρ, d, s, ed, q⟩ => by
  unfold eS at ed
  split at ed
  · rename_i d' h
    cases ed
    have z := s.slot i _ h
    generalize e2 : σ[i]?.getD none = w at z
    cases z with
    | scr h => exact ⟨_, getD_some e2, q G H _ (Gx.refl s.gx.gh) (h.mono (s.base.trans s.gx.h))⟩
  · cases ed⟩
theorem d_const {v : V} {d : PyData} (h : PE X e (tC v)) (r : ∀ G, Rep X.K G d v) : DX X .val e (eK d) := ⟨h.imp fun σ H Q ⟨G0, H0, G, ρ, d', s, ed, q⟩ => by
  cases ed
  exact q G H v (Gx.refl s.gx.gh) (r G)⟩
theorem d_int {i j pos} : DX X .val (.Constant (.int i) j pos) (eK (.int i)) := d_const pe_int fun _ => .int i
theorem d_bl {b j pos} : DX X .val (.Constant (.bool b) j pos) (eK (.bool b)) := d_const pe_bl fun _ => .bl b
theorem d_non {j pos} : DX X .val (.Constant .none j pos) (eK .none) := d_const pe_non fun _ => .non
theorem d_str {x j pos} : DX X .val (.Constant (.str x) j pos) (eK (.str x)) := d_const pe_str fun _ => .str x

/-! ### operators -/
/-- a partial function on data that the rule r keeps -/
def OpF (K : PySem.W.Frag) (m : Md) (r : R2) (F : PyData → PyData → Option PyData) : Prop :=
  ∀ (G H : Hp) (d1 d2 d : PyData) (x y : V) (Q : VK), Ex G H → RepB K G H d1 x → RepB K G H d2 y → F d1 d2 = some d → (∀ G' H' v, Gx G H G' H' → (∀ H0, RM K H0 H m G' H' d v) → Q v H') → r x y H Q
def UnF (K : PySem.W.Frag) (m : Md) (r : V → Hp → VK → Prop) (F : PyData → Option PyData) : Prop :=
  ∀ (G H : Hp) (d1 d : PyData) (x : V) (Q : VK), Ex G H → RepB K G H d1 x → F d1 = some d → (∀ G' H' v, Gx G H G' H' → (∀ H0, RM K H0 H m G' H' d v) → Q v H') → r x H Q
def eOp (F : PyData → PyData → Option PyData) (f g : SE) : SE := fun ρ => (f ρ).bind fun x => (g ρ).bind fun y => F x y
def eUn (F : PyData → Option PyData) (f : SE) : SE := fun ρ => (f ρ).bind F
theorem bind_some {α β : Type} {o : Option α} {k : α → Option β} {b : β} (h : o.bind k = some b) : ∃ a, o = some a ∧ k a = some b := by
  cases o with
  | none => cases h
  | some a => exact ⟨a, rfl, h⟩
/-- the two places of an operator -/
theorem op_two {r : R2} {F : PyData → PyData → Option PyData} (hF : OpF X.K m r F) {σ : L2.St} {H : Hp} {Q : VK} (q : tE X.K m (eOp F f g) σ H Q) : tOp r (tE X.K .bor f) (tE X.K .bor g) σ H Q := by
  obtain ⟨G0, H0, G, ρ, d, s, ed, q⟩ := q
  obtain ⟨d1, e1, ed⟩ := bind_some ed
  obtain ⟨d2, e2, ed⟩ := bind_some ed
  refine ⟨G0, H0, G, ρ, d1, s, e1, fun G1 H1 x gx1 r1 => ⟨G0, H0, G1, ρ, d2, s.gx' gx1, e2, fun G2 H2 y gx2 r2 => ?_⟩⟩
  have gx := gx1.trans gx2
  exact hF G2 H2 d1 d2 d x y Q gx2.gh (RM.mono (m := .bor) (H0 := H0) (Hs := H) gx2 r1) r2 ed fun G3 H3 v gx3 r3 => q G3 H3 v (gx.trans gx3) ((r3 H0).start gx.h)
theorem d_op {op : Operator} {r : R2} {F : PyData → PyData → Option PyData} (ho : OpR X (binaryOp op) r) (hF : OpF X.K m r F) (ha : DX X .bor a f) (hb : DX X .bor b g) : DX X m (.BinOp a op b pos) (eOp F f g) :=
  ⟨(pe_op ho ha.pe hb.pe).imp fun _ _ _ q => op_two hF q⟩
theorem d_un {op : UnaryOp} {r : V → Hp → VK → Prop} {F : PyData → Option PyData} (ho : UnR X (unaryOp op) r) (hF : UnF X.K m r F) (ha : DX X .bor a f) : DX X m (.UnaryOp op a pos) (eUn F f) :=
  ⟨(pe_un ho ha.pe).imp fun σ H Q ⟨G0, H0, G, ρ, d, s, ed, q⟩ => by
    obtain ⟨d1, e1, ed⟩ := bind_some ed
    exact ⟨G0, H0, G, ρ, d1, s, e1, fun G1 H1 x gx1 r1 => hF G1 H1 d1 d x Q gx1.gh r1 ed fun G3 H3 v gx3 r3 => q G3 H3 v (gx1.trans gx3) ((r3 H0).start gx1.h)⟩⟩
theorem d_cmp {op : CmpOp} {r : R2} {F : PyData → PyData → Option PyData} (ho : OpR X (compareOp op) r) (hF : OpF X.K .val r F) (ha : DX X .bor a f) (hb : DX X .bor b g) (hm : behindInMarks op b = false) : DX X .val (.Compare a [op] [b] pos) (eOp F f g) :=
  ⟨(pe_cmpR ho ha.pe hb.pe hm).imp fun _ _ _ q => op_two hF q⟩
def asB : PyData → Option Bool
  | .bool b => some b
  | _ => none
def bT (f : SE) : SB := fun ρ => (f ρ).bind asB
theorem asB_some : ∀ {d : PyData} {k : Bool}, asB d = some k → d = .bool k
  | .bool _, _, h => congrArg _ (Option.some.inj h)
theorem tTest_of {t : TE} {f : SE} (w : ∀ σ H Q, tE X.K .val f σ H Q → t σ H Q) : ∀ σ H Q, tT X.K (bT f) σ H Q → tTest t σ H Q := fun σ H Q ⟨G0, H0, G, ρ, k, s, ed, q⟩ => by
  obtain ⟨d, e1, e2⟩ := bind_some ed
  cases asB_some e2
  exact w σ H _ ⟨G0, H0, G, ρ, _, s, e1, fun G' H' v gx r => by
    cases (show Rep X.K G' (.bool k) v from r)
    exact ⟨k, rfl, q G' H' gx⟩⟩
theorem t_cmp {op : CmpOp} {r : R2} {F : PyData → PyData → Option PyData} (ho : OpR X (compareOp op) r) (hF : OpF X.K .val r F) (ha : DX X .bor a f) (hb : DX X .bor b g) (hm : behindInMarks op b = false) : DT X (.Compare a [op] [b] pos) (bT (eOp F f g)) :=
  ⟨(pt_cmpR ho ha.pe hb.pe hm).imp (tTest_of fun _ _ _ q => op_two hF q)⟩
def eChain (F F' : PyData → PyData → Option PyData) (f g h : SE) : SE := fun ρ => (f ρ).bind fun x => (g ρ).bind fun y => (F x y).bind fun z => match z with
  | .bool true => (h ρ).bind fun w => F' y w
  | .bool false => some (.bool false)
  | _ => none
theorem chain_two {r r' : R2} {F F' : PyData → PyData → Option PyData} (hF : OpF X.K .val r F) (hF' : OpF X.K .val r' F') {σ : L2.St} {H : Hp} {Q : VK} (q : tE X.K .val (eChain F F' f g h) σ H Q) : tChain r r' (tE X.K .bor f) (tE X.K .bor g) (tE X.K .bor h) σ H Q := by
  obtain ⟨G0, H0, G, ρ, d, s, ed, q⟩ := q
  obtain ⟨d1, e1, ed⟩ := bind_some ed
  obtain ⟨d2, e2, ed⟩ := bind_some ed
  obtain ⟨d3, e3, ed⟩ := bind_some ed
  refine ⟨G0, H0, G, ρ, d1, s, e1, fun G1 H1 x gx1 r1 => ⟨G0, H0, G1, ρ, d2, s.gx' gx1, e2, fun G2 H2 y gx2 r2 => ?_⟩⟩
  have gx := gx1.trans gx2
  refine hF G2 H2 d1 d2 d3 x y _ gx2.gh (RM.mono (m := .bor) (H0 := H0) (Hs := H) gx2 r1) r2 e3 fun G3 H3 v gx3 r3 => ?_
  have gx4 := gx.trans gx3
  cases d3 with
  | bool k =>
    cases (show Rep X.K G3 (.bool k) v from r3 H0)
    refine ⟨k, rfl, ?_⟩
    cases k with
    | false =>
      rw [if_neg Bool.false_ne_true]
      cases ed
      exact q G3 H3 _ gx4 (.bl false)
    | true =>
      rw [if_pos rfl]
      obtain ⟨d4, e4, ed⟩ := bind_some ed
      refine ⟨G0, H0, G3, ρ, d4, s.gx' gx4, e4, fun G5 H5 w gx5 r5 => ?_⟩
      exact hF' G5 H5 d2 d4 d y w Q gx5.gh (RM.mono (m := .bor) (H0 := H0) (Hs := H) (gx3.trans gx5) r2) r5 ed fun G6 H6 v' gx6 r6 => q G6 H6 v' ((gx4.trans gx5).trans gx6) (r6 H0)
  | _ => cases ed
theorem d_chain {op op' : CmpOp} {r r' : R2} {F F' : PyData → PyData → Option PyData} (ho : OpR X (compareOp op) r) (hF : OpF X.K .val r F) (ho' : OpR X (compareOp op') r') (hF' : OpF X.K .val r' F') (ha : DX X .bor a f) (hb : DX X .bor b g) (hc : DX X .bor c h)
    (hm : lastMarks [op, op'] [b, c] = false := by with_unfolding_all rfl) : DX X .val (.Compare a [op, op'] [b, c] pos) (eChain F F' f g h) :=
  ⟨(pe_chain ho ho' ha.pe hb.pe hc.pe hm).imp fun _ _ _ q => chain_two hF hF' q⟩
theorem t_chain {op op' : CmpOp} {r r' : R2} {F F' : PyData → PyData → Option PyData} (ho : OpR X (compareOp op) r) (hF : OpF X.K .val r F) (ho' : OpR X (compareOp op') r') (hF' : OpF X.K .val r' F') (ha : DX X .bor a f) (hb : DX X .bor b g) (hc : DX X .bor c h)
    (hm : lastMarks [op, op'] [b, c] = false := by with_unfolding_all rfl) : DT X (.Compare a [op, op'] [b, c] pos) (bT (eChain F F' f g h)) :=
  ⟨(pt_chain ho ho' ha.pe hb.pe hc.pe hm).imp (tTest_of fun _ _ _ q => chain_two hF hF' q)⟩

/-! ### truth; and, or, not -/
def truth : PyData → Option Bool
  | .none => some false
  | .bool b => some b
  | .int i => some (i != 0)
  | .str x => if x.length ≤ sizeLine then some ((x.length : Int) != 0) else none
  | .list xs => some (!xs.isEmpty)
  | .tuple xs => some (!xs.isEmpty)
  | _ => none
theorem RepA.isEmpty {K : PySem.W.Frag} {G : Hp} {ds : List PyData} {vs : List V} (r : RepA K G ds vs) : vs.isEmpty = ds.isEmpty := by cases r <;> rfl
theorem truth_ok {K : PySem.W.Frag} {G H : Hp} (e : Ex G H) {d : PyData} {x : V} {k : Bool} (r : RepB K G H d x) (h : truth d = some k) : TruV K x H k := by
  cases r with
  | lst hl ra =>
    cases h
    exact .inl ⟨_, SqL.of hl, by rw [ra.isEmpty]⟩
  | dK _ _ _ => cases h
  | dT _ _ _ => cases h
  | val r =>
    cases r with
    | non => cases h; rfl
    | bl b => cases h; rfl
    | int i => cases h; rfl
    | str y =>
      have h' : (if y.length ≤ sizeLine then some ((y.length : Int) != 0) else none) = some k := h
      obtain ⟨h1, h2⟩ := if_some h'
      exact ⟨h1, h2.symm⟩
    | lst hl ra =>
      cases h
      exact .inl ⟨_, .inl (e.rd hl), by rw [ra.isEmpty]⟩
    | tup hl ra =>
      cases h
      exact .inr (.inl ⟨_, e.sqt hl, by rw [ra.isEmpty]⟩)
    | dK _ _ _ => cases h
    | dT _ _ _ => cases h
def bV (f : SE) : SB := fun ρ => (f ρ).bind truth
theorem t_val (ha : DX X .bor a f) (he : ∀ whole, isTrue a X.env whole = (do let v ← whole; standAt a.pos; holding [v] (truthy v)) := by intro _; rfl) : DT X a (bV f) :=
  ⟨(pt_truth ha.pe he).imp fun σ H Q ⟨G0, H0, G, ρ, k, s, ed, q⟩ => by
    obtain ⟨d, e1, e2⟩ := bind_some ed
    exact ⟨G0, H0, G, ρ, d, s, e1, fun G' H' v gx r => ⟨k, truth_ok gx.gh r e2, q G' H' gx⟩⟩⟩
def bAnd (f g : SB) : SB := fun ρ => (f ρ).bind fun k => if k = true then g ρ else some false
def bOr (f g : SB) : SB := fun ρ => (f ρ).bind fun k => if k = true then some true else g ρ
def bNot (f : SB) : SB := fun ρ => (f ρ).map fun k => !k
variable {rest : List Expr} {t u : SB}
theorem w_and1 (ha : DT X a t) : DW X (.BoolOp .And [a] pos) t := ⟨pw_and1 ha.pt⟩
theorem w_or1 (ha : DT X a t) : DW X (.BoolOp .Or [a] pos) t := ⟨pw_or1 ha.pt⟩
theorem w_and (ha : DT X a t) (hb : DW X (.BoolOp .And (b :: rest) pos) u) : DW X (.BoolOp .And (a :: b :: rest) pos) (bAnd t u) :=
  ⟨(pw_and ha.pt hb.pw).imp fun σ H Q ⟨G0, H0, G, ρ, k, s, ed, q⟩ => by
    obtain ⟨k1, e1, e2⟩ := bind_some ed
    refine ⟨G0, H0, G, ρ, k1, s, e1, fun G' H' gx => ?_⟩
    cases k1 with
    | true => exact iteT ⟨G0, H0, G', ρ, k, s.gx' gx, e2, fun G2 H2 gx2 => q G2 H2 (gx.trans gx2)⟩
    | false => cases e2; exact iteF (q G' H' gx)⟩
theorem w_or (ha : DT X a t) (hb : DW X (.BoolOp .Or (b :: rest) pos) u) : DW X (.BoolOp .Or (a :: b :: rest) pos) (bOr t u) :=
  ⟨(pw_or ha.pt hb.pw).imp fun σ H Q ⟨G0, H0, G, ρ, k, s, ed, q⟩ => by
    obtain ⟨k1, e1, e2⟩ := bind_some ed
    refine ⟨G0, H0, G, ρ, k1, s, e1, fun G' H' gx => ?_⟩
    cases k1 with
    | false => exact iteF ⟨G0, H0, G', ρ, k, s.gx' gx, e2, fun G2 H2 gx2 => q G2 H2 (gx.trans gx2)⟩
    | true => cases e2; exact iteT (q G' H' gx)⟩
theorem t_w (h : DW X e t) : DT X e t := ⟨h.pw.pt⟩
theorem t_not (ha : DT X a t) : DT X (.UnaryOp .Not a pos) (bNot t) :=
  ⟨(pt_not ha.pt).imp fun σ H Q ⟨G0, H0, G, ρ, k, s, ed, q⟩ => by
    cases e : t ρ with
    | none => rw [bNot, e] at ed; cases ed
    | some k1 =>
      rw [bNot, e] at ed
      cases ed
      exact ⟨G0, H0, G, ρ, k1, s, e, fun G' H' gx => q G' H' gx⟩⟩
/-- .. as values -/
def eAnd (f g : SE) : SE := fun ρ => (f ρ).bind fun x => (truth x).bind fun k => if k = true then g ρ else some x
def eOr (f g : SE) : SE := fun ρ => (f ρ).bind fun x => (truth x).bind fun k => if k = true then some x else g ρ
def eNot (f : SE) : SE := fun ρ => (f ρ).bind fun x => (truth x).map fun k => .bool !k
theorem d_one {op} (h : DX X m a f) : DX X m (.BoolOp op [a] pos) f := ⟨pe_one h.pe⟩
theorem d_and (ha : DX X .val a f) (hb : DX X .val (.BoolOp .And (b :: rest) pos) g) : DX X .val (.BoolOp .And (a :: b :: rest) pos) (eAnd f g) :=
  ⟨(pe_andT ha.pe hb.pe).imp fun σ H Q ⟨G0, H0, G, ρ, d, s, ed, q⟩ => by
    obtain ⟨d1, e1, ed⟩ := bind_some ed
    obtain ⟨k1, e2, ed⟩ := bind_some ed
    refine ⟨G0, H0, G, ρ, d1, s, e1, fun G' H' v gx r => ⟨k1, truth_ok gx.gh (.val r) e2, ?_⟩⟩
    cases k1 with
    | true => exact iteT ⟨G0, H0, G', ρ, d, s.gx' gx, ed, fun G2 H2 v gx2 r => q G2 H2 v (gx.trans gx2) r⟩
    | false => cases ed; exact iteF (q G' H' v gx r)⟩
theorem d_or (ha : DX X .val a f) (hb : DX X .val (.BoolOp .Or (b :: rest) pos) g) : DX X .val (.BoolOp .Or (a :: b :: rest) pos) (eOr f g) :=
  ⟨(pe_orT ha.pe hb.pe).imp fun σ H Q ⟨G0, H0, G, ρ, d, s, ed, q⟩ => by
    obtain ⟨d1, e1, ed⟩ := bind_some ed
    obtain ⟨k1, e2, ed⟩ := bind_some ed
    refine ⟨G0, H0, G, ρ, d1, s, e1, fun G' H' v gx r => ⟨k1, truth_ok gx.gh (.val r) e2, ?_⟩⟩
    cases k1 with
    | false => exact iteF ⟨G0, H0, G', ρ, d, s.gx' gx, ed, fun G2 H2 v gx2 r => q G2 H2 v (gx.trans gx2) r⟩
    | true => cases ed; exact iteT (q G' H' v gx r)⟩
theorem d_not (ha : DX X .bor a f) : DX X .val (.UnaryOp .Not a pos) (eNot f) :=
  ⟨(pe_notT ha.pe).imp fun σ H Q ⟨G0, H0, G, ρ, d, s, ed, q⟩ => by
    obtain ⟨d1, e1, ed⟩ := bind_some ed
    cases e2 : truth d1 with
    | none => rw [e2] at ed; cases ed
    | some k =>
      rw [e2] at ed
      cases ed
      exact ⟨G0, H0, G, ρ, d1, s, e1, fun G' H' v gx r => ⟨k, truth_ok gx.gh r e2, q G' H' _ gx (.bl _)⟩⟩⟩
/-- a if t else b -/
def eIf (t : SB) (f g : SE) : SE := fun ρ => (t ρ).bind fun k => if k = true then f ρ else g ρ
theorem d_if (hc : DT X c t) (ha : DX X m a f) (hb : DX X m b g) : DX X m (.IfExp c a b pos) (eIf t f g) :=
  ⟨(pe_ifExp hc.pt ha.pe hb.pe).imp fun σ H Q ⟨G0, H0, G, ρ, d, s, ed, q⟩ => by
    obtain ⟨k1, e1, ed⟩ := bind_some ed
    refine ⟨G0, H0, G, ρ, k1, s, e1, fun G' H' gx => ?_⟩
    cases k1 with
    | true => exact iteT ⟨G0, H0, G', ρ, d, s.gx' gx, ed, fun G2 H2 v gx2 r => q G2 H2 v (gx.trans gx2) (r.start gx.h)⟩
    | false => exact iteF ⟨G0, H0, G', ρ, d, s.gx' gx, ed, fun G2 H2 v gx2 r => q G2 H2 v (gx.trans gx2) (r.start gx.h)⟩⟩

/-! ### argument lists and displays -/
def aNil : SA := fun _ => some []
def aCons (f : SE) (r : SA) : SA := fun ρ => (f ρ).bind fun d => (r ρ).bind fun ds => some (d :: ds)
variable {es : List Expr} {ms : List Md} {r : SA}
theorem a_nil : DA X [] [] aNil := ⟨pa_nil.imp fun σ H Q ⟨G0, H0, G, ρ, d, s, ed, q⟩ => by
  cases ed
  exact q G H [] (Gx.refl s.gx.gh) .nil⟩
theorem a_cons (ha : DX X m e f) (hr : DA X ms es r) (hs : starEach (e :: es) X.env = (false, eval e X.env) :: starEach es X.env := by rfl) : DA X (m :: ms) (e :: es) (aCons f r) :=
  ⟨(pa_cons ha.pe hr.pa hs).imp fun σ H Q ⟨G0, H0, G, ρ, d, s, ed, q⟩ => by
    obtain ⟨d1, e1, ed⟩ := bind_some ed
    obtain ⟨ds, e2, ed⟩ := bind_some ed
    cases ed
    refine ⟨G0, H0, G, ρ, d1, s, e1, fun G1 H1 x gx1 r1 => ⟨G0, H0, G1, ρ, ds, s.gx' gx1, e2, fun G2 H2 vs gx2 r2 => ?_⟩⟩
    exact q G2 H2 _ (gx1.trans gx2) (.cons (r1.mono gx2) (r2.start gx1.h))⟩
def eTup (r : SA) : SE := fun ρ => (r ρ).bind fun ds => if ds.length ≤ sizeLine then some (.tuple ds) else none
def eLst (r : SA) : SE := fun ρ => (r ρ).bind fun ds => if ds.length ≤ sizeLine then some (.list ds) else none
theorem d_tup {x1} (h : DA X ms es r) (hm : ∀ m ∈ ms, m = .val) : DX X .val (.Tuple es x1 pos) (eTup r) :=
  ⟨(pe_tup h.pa).imp fun σ H Q ⟨G0, H0, G, ρ, d, s, ed, q⟩ => by
    obtain ⟨ds, e1, ed⟩ := bind_some ed
    obtain ⟨hl, rfl⟩ := if_some ed
    refine ⟨G0, H0, G, ρ, ds, s, e1, fun G1 H1 vs gx1 r1 => ?_⟩
    have ra := r1.vals hm
    refine ⟨by rw [← ra.len]; exact hl, fun p np => ?_⟩
    exact q _ _ _ (gx1.trans (Gx.new gx1.gh np)) (.tup (.inl (.inl upd_same)) (ra.mono (Ex.new (gx1.gh.back np))))⟩
theorem d_lst (h : DA X ms es r) (hm : ∀ m ∈ ms, m = .val) : DX X .new (.List es pos) (eLst r) :=
  ⟨(pe_lst h.pa).imp fun σ H Q ⟨G0, H0, G, ρ, d, s, ed, q⟩ => by
    obtain ⟨ds, e1, ed⟩ := bind_some ed
    obtain ⟨hl, rfl⟩ := if_some ed
    refine ⟨G0, H0, G, ρ, ds, s, e1, fun G1 H1 vs gx1 r1 => ?_⟩
    have ra := r1.vals hm
    refine ⟨by rw [← ra.len]; exact hl, fun p np => ?_⟩
    exact q _ _ _ (gx1.trans (Gx.mine gx1.gh np)) ⟨p, rfl, gx1.h.back np, gx1.gh.back np, .lst upd_same ra⟩⟩
end
end DV

namespace DV
open PySem L2

theorem ite_some {c : Prop} [Decidable c] {α : Type} {a : Option α} {b : α} (h : (if c then a else none) = some b) : c ∧ a = some b := by
  split at h
  · exact ⟨by assumption, h⟩
  · cases h
/-! ### what is walked -/
abbrev SI := Rho → Option (List PyData)
structure WalkD (K : PySem.W.Frag) (B G : Hp) (J : It) (ds : List PyData) : Prop where
  goes : ∀ i G2 H2, i < ds.length → Ex G G2 → Ex G2 H2 → Ex B H2 → J.go i H2
  stops : ∀ G2 H2, Ex G G2 → Ex G2 H2 → Ex B H2 → J.stop ds.length H2
  yields : ∀ i d G2 H2 x H3, ds[i]? = some d → Ex G G2 → Ex G2 H2 → Ex B H2 → J.yld i H2 x H3 → ∃ G3, Gx G2 H2 G3 H3 ∧ Rep K G3 d x
def tI (K : PySem.W.Frag) (wide : Bool) (f : SI) : TI := fun σ H R => ∃ G0 H0 G ρ ds, Sok K G0 H0 G ρ σ H ∧ f ρ = some ds ∧ ∀ G' H' J, Gx G H G' H' → WalkD K (if wide = true then H' else H0) G' J ds → R J H'
structure DI (X : Cx) (tg iter : Expr) (wide : Bool) (f : SI) : Prop where
  pi : PI X tg iter (tI X.K wide f)
theorem _root_.L2.PI.imp {X : Cx} {tg e : Expr} {t t' : TI} (h : PI X tg e t) (w : ∀ σ H Q, t' σ H Q → t σ H Q) : PI X tg e t' := ⟨fun pins s σ H Q I q => h.run pins s σ H Q I (w σ H Q q)⟩
def itemsOf : PyData → Option (List PyData)
  | .list ds => some ds
  | .tuple ds => some ds
  | .str z => some (z.cps.toList.map fun c => .str ⟨#[c]⟩)
  | _ => none
/-- a list, a tuple or a text, by what it is -/
def iAny (K : PySem.W.Frag) (te : TE) : TI := fun σ H R => te σ H fun x H1 =>
  (∃ a, x = .ref a ∧ (∃ xs, SqL K H1 a xs) ∧ R (Itl K a) H1) ∨ (∃ a, x = .ref a ∧ (∃ xs, SqT K H1 a xs) ∧ R (Itt K a) H1) ∨ ∃ z, x = .str z ∧ R (Its z) H1
theorem pi_any {X : Cx} {tg l : Expr} {tl : TE} (hl : PE X l tl) : PI X tg l (iAny X.K tl) := by
  refine ⟨fun pins s σ H R I h => ?_⟩
  refine thn (hl.run pins s σ H _ I h) fun v s1 ⟨x, H1, I1, r1, q1⟩ => ?_
  rcases q1 with ⟨a, e, ⟨xs, hq⟩, q⟩ | ⟨a, e, ⟨xs, hq⟩, q⟩ | ⟨z, e, q⟩
  · subst e
    cases r1
    obtain ⟨its, rv, p, hz⟩ := I1.list hq
    refine wpAny_pyIter_list p.isList ?_
    refine ⟨s1.heap.objs.size, [s1.heap.objs.size], _, _, H1, rfl, I1.kept (t' := s1.toks) fun b o e => Heap.get?_push_of_some _ e, turn_list a _, ⟨_, Heap.get?_push_size _ rfl, rfl, rfl⟩, fun b hb => ?_, q⟩
    have e : b = s1.heap.objs.size := by simpa using hb
    subst e
    exact I1.fpOk (Nat.le_refl _) (I1.hok.fresh (Nat.le_refl _))
  · subst e
    cases r1
    obtain ⟨its, rv, p, hz⟩ := I1.tuple hq
    refine wpAny_pyIter_tuple (show s1.heap.IsTuple a its.toArray from p) ?_
    refine ⟨s1.heap.objs.size, [s1.heap.objs.size], _, _, H1, rfl, I1.kept (t' := s1.toks) fun b o e => Heap.get?_push_of_some _ e, turn_tuple a _, ⟨_, Heap.get?_push_size _ rfl, rfl, rfl⟩, fun b hb => ?_, q⟩
    have e : b = s1.heap.objs.size := by simpa using hb
    subst e
    exact I1.fpOk (Nat.le_refl _) (I1.hok.fresh (Nat.le_refl _))
  · subst e
    obtain ⟨t, rfl⟩ := r1
    cases ha : z.cps.all (· < 128)
    · exact wpAny_pyIter_wide ha (pi_one (tk := s1.toks) I1 _ (turn_str _ z t "str_iterator" (.inr rfl)) ⟨_, Heap.get?_push_size _ rfl, rfl, rfl⟩ q)
    · exact wpAny_pyIter_ascii ha (pi_one (tk := s1.toks) I1 _ (turn_str _ z t "str_ascii_iterator" (.inl rfl)) ⟨_, Heap.get?_push_size _ rfl, rfl, rfl⟩ q)
section
variable {K : PySem.W.Frag} {B G0 H0 G H G' H' : Hp} {ρ : Rho} {σ : L2.St} {d : PyData} {ds : List PyData} {vs : List V} {a : Addr}
theorem WalkD.list (st : ∀ H2, Ex G H2 → Ex B H2 → SqL K H2 a vs) (r : RepA K G ds vs) : WalkD K B G (Itl K a) ds where
  goes := fun i G2 H2 hi g1 g2 b => by
    have q := st H2 (g1.trans g2) b
    rw [r.len] at hi
    exact ⟨vs, _, q, List.getElem?_eq_getElem hi⟩
  stops := fun G2 H2 g1 g2 b => ⟨vs, st H2 (g1.trans g2) b, by rw [r.len]; exact Nat.le_refl _⟩
  yields := fun i d G2 H2 x H3 hi g1 g2 b y => by
    obtain ⟨rfl, hy⟩ := y
    obtain ⟨v, h1, h2⟩ := r.get hi
    have := hy vs (st _ (g1.trans g2) b)
    rw [h1] at this; cases this
    exact ⟨G2, Gx.refl g2, h2.mono g1⟩
theorem WalkD.tup (st : ∀ H2, Ex G H2 → Ex B H2 → SqT K H2 a vs) (r : RepA K G ds vs) : WalkD K B G (Itt K a) ds where
  goes := fun i G2 H2 hi g1 g2 b => by
    have q := st H2 (g1.trans g2) b
    rw [r.len] at hi
    exact ⟨vs, _, q, List.getElem?_eq_getElem hi⟩
  stops := fun G2 H2 g1 g2 b => ⟨vs, st H2 (g1.trans g2) b, by rw [r.len]; exact Nat.le_refl _⟩
  yields := fun i d G2 H2 x H3 hi g1 g2 b y => by
    obtain ⟨rfl, hy⟩ := y
    obtain ⟨v, h1, h2⟩ := r.get hi
    have := hy vs (st _ (g1.trans g2) b)
    rw [h1] at this; cases this
    exact ⟨G2, Gx.refl g2, h2.mono g1⟩
theorem WalkD.str {z : Str} : WalkD K B G (Its z) (z.cps.toList.map fun c => .str ⟨#[c]⟩) where
  goes := fun i G2 H2 hi g1 g2 b => by
    show i < z.cps.size
    simpa using hi
  stops := fun G2 H2 g1 g2 b => by
    show z.cps.size ≤ _
    simp
  yields := fun i d G2 H2 x H3 hi g1 g2 b y => by
    obtain ⟨rfl, c, hc, rfl⟩ := y
    rw [List.getElem?_map, Array.getElem?_toList, hc] at hi
    cases hi
    exact ⟨G2, Gx.refl g2, .str _⟩
/-- the pairs that enumerate gives -/
def enumD : Nat → List PyData → List PyData
  | _, [] => []
  | n, d :: ds => .tuple [.int (n : Nat), d] :: enumD (n + 1) ds
theorem enumD_len : ∀ (n : Nat) (ds : List PyData), (enumD n ds).length = ds.length
  | _, [] => rfl
  | n, _ :: ds => congrArg (· + 1) (enumD_len (n + 1) ds)
theorem enumD_get : ∀ (n : Nat) (ds : List PyData) (i : Nat), (enumD n ds)[i]? = ds[i]?.map fun d => .tuple [.int ((n + i : Nat) : Int), d]
  | _, [], i => by simp [enumD]
  | n, d :: ds, 0 => by simp [enumD]
  | n, d :: ds, i + 1 => by
    rw [show (enumD n (d :: ds))[i + 1]? = (enumD (n + 1) ds)[i]? from rfl, enumD_get (n + 1) ds i, show (d :: ds)[i + 1]? = ds[i]? from rfl, show n + 1 + i = n + (i + 1) by omega]
theorem WalkD.enum (st : ∀ H2, Ex G H2 → Ex B H2 → SqL K H2 a vs) (r : RepA K G ds vs) : WalkD K B G (Ite K a) (enumD 0 ds) where
  goes := fun i G2 H2 hi g1 g2 b => by
    rw [enumD_len, r.len] at hi
    exact ⟨vs, _, st H2 (g1.trans g2) b, List.getElem?_eq_getElem hi⟩
  stops := fun G2 H2 g1 g2 b => ⟨vs, st H2 (g1.trans g2) b, by rw [enumD_len, r.len]; exact Nat.le_refl _⟩
  yields := fun i d G2 H2 x H3 hi g1 g2 b y => by
    obtain ⟨T, x', rfl, nT, rfl, hy⟩ := y
    rw [enumD_get] at hi
    cases e : ds[i]? with
    | none => rw [e] at hi; cases hi
    | some d' =>
      rw [e] at hi
      cases hi
      obtain ⟨v, h1, h2⟩ := r.get e
      have := hy vs (st _ (g1.trans g2) b)
      rw [h1] at this; cases this
      refine ⟨_, Gx.new g2 nT, .tup (.inl (.inl upd_same)) (.cons ?_ (.cons (h2.mono (g1.trans (Ex.new (g2.back nT)))) .nil))⟩
      rw [Nat.zero_add]; exact .int _
def zipD : List PyData → List PyData → List PyData
  | x :: xs, y :: ys => .tuple [x, y] :: zipD xs ys
  | _, _ => []
theorem zipD_len : ∀ xs ys : List PyData, (zipD xs ys).length = min xs.length ys.length
  | [], _ => by simp [zipD]
  | _ :: _, [] => by simp [zipD]
  | x :: xs, y :: ys => by
    show (zipD xs ys).length + 1 = min (xs.length + 1) (ys.length + 1)
    rw [zipD_len xs ys]; omega
theorem zipD_get : ∀ (xs ys : List PyData) (i : Nat) (d : PyData), (zipD xs ys)[i]? = some d → ∃ x y, xs[i]? = some x ∧ ys[i]? = some y ∧ d = .tuple [x, y]
  | [], _, i, d, h => by simp [zipD] at h
  | _ :: _, [], i, d, h => by simp [zipD] at h
  | x :: xs, y :: ys, 0, d, h => ⟨x, y, rfl, rfl, (Option.some.inj h).symm⟩
  | x :: xs, y :: ys, i + 1, d, h => zipD_get xs ys i d h
theorem WalkD.zip {a b : Addr} {us : List V} {es : List PyData} (st : ∀ H2, Ex G H2 → Ex B H2 → SqL K H2 a vs) (st2 : ∀ H2, Ex G H2 → Ex B H2 → SqL K H2 b us) (r : RepA K G ds vs) (r2 : RepA K G es us) : WalkD K B G (Itz K a b) (zipD ds es) where
  goes := fun i G2 H2 hi g1 g2 b => by
    rw [zipD_len, r.len, r2.len] at hi
    exact ⟨vs, us, _, _, st H2 (g1.trans g2) b, st2 H2 (g1.trans g2) b, List.getElem?_eq_getElem (by omega), List.getElem?_eq_getElem (by omega)⟩
  stops := fun G2 H2 g1 g2 b => ⟨vs, us, st H2 (g1.trans g2) b, st2 H2 (g1.trans g2) b, by rw [zipD_len, r.len, r2.len]; omega⟩
  yields := fun i d G2 H2 x H3 hi g1 g2 b y => by
    obtain ⟨T, x', y', rfl, nT, rfl, hx, hy⟩ := y
    obtain ⟨d1, d2, e1, e2, rfl⟩ := zipD_get _ _ _ _ hi
    obtain ⟨v, h1, h2⟩ := r.get e1
    obtain ⟨u, k1, k2⟩ := r2.get e2
    have := hx vs (st _ (g1.trans g2) b)
    rw [h1] at this; cases this
    have := hy us (st2 _ (g1.trans g2) b)
    rw [k1] at this; cases this
    exact ⟨_, Gx.new g2 nT, .tup (.inl (.inl upd_same)) (.cons (h2.mono (g1.trans (Ex.new (g2.back nT)))) (.cons (k2.mono (g1.trans (Ex.new (g2.back nT)))) .nil))⟩
def rangeD (lo : Int) (n : Nat) : List PyData := (List.range n).map fun i => .int (lo + (i : Nat))
theorem rangeD_len (lo : Int) (n : Nat) : (rangeD lo n).length = n := by simp [rangeD]
theorem WalkD.range {lo : Int} {n : Nat} : WalkD K B G (Itr lo n) (rangeD lo n) where
  goes := fun i G2 H2 hi _ _ _ => by rw [rangeD_len] at hi; exact hi
  stops := fun G2 H2 _ _ _ => by rw [rangeD_len]; exact Nat.le_refl _
  yields := fun i d G2 H2 x H3 hi _ g2 _ y => by
    obtain ⟨rfl, rfl⟩ := y
    unfold rangeD at hi
    rw [List.getElem?_map] at hi
    cases e : (List.range n)[i]? with
    | none => rw [e] at hi; cases hi
    | some j =>
      rw [e] at hi
      cases hi
      have : j = i := by
        obtain ⟨h1, h2⟩ := List.getElem?_eq_some_iff.mp e
        rw [← h2]; simp
      subst this
      exact ⟨G2, Gx.refl g2, .int _⟩
def rangeC (lo c : Int) (n : Nat) : List PyData := (List.range n).map fun i => .int (lo + (i : Nat) * c)
theorem rangeC_len (lo c : Int) (n : Nat) : (rangeC lo c n).length = n := by simp [rangeC]
theorem WalkD.rangeC {lo c : Int} {n : Nat} : WalkD K B G (Itc lo c n) (rangeC lo c n) where
  goes := fun i G2 H2 hi _ _ _ => by rw [rangeC_len] at hi; exact hi
  stops := fun G2 H2 _ _ _ => by rw [rangeC_len]; exact Nat.le_refl _
  yields := fun i d G2 H2 x H3 hi _ g2 _ y => by
    obtain ⟨rfl, rfl⟩ := y
    unfold DV.rangeC at hi
    rw [List.getElem?_map] at hi
    cases e : (List.range n)[i]? with
    | none => rw [e] at hi; cases hi
    | some j =>
      rw [e] at hi
      cases hi
      have : j = i := by
        obtain ⟨h1, h2⟩ := List.getElem?_eq_some_iff.mp e
        rw [← h2]; simp
      subst this
      exact ⟨G2, Gx.refl g2, .int _⟩
end
/-- reading a list, whatever mode -/
theorem RepB.seq {K : PySem.W.Frag} {G B : Hp} {ds : List PyData} {v : V} (h : RepB K G B (.list ds) v) : ∃ a vs, v = .ref a ∧ (∀ H2, Ex G H2 → Ex B H2 → Rd H2 a (.lst vs)) ∧ RepA K G ds vs := by
  cases h with
  | val h =>
    cases h with
    | lst h r => exact ⟨_, _, rfl, fun H2 g _ => g.rd h, r⟩
  | lst h r => exact ⟨_, _, rfl, fun H2 _ b => .inl (b _ _ h), r⟩
theorem RepB.seqT {K : PySem.W.Frag} {G B : Hp} {ds : List PyData} {v : V} (h : RepB K G B (.tuple ds) v) : ∃ a vs, v = .ref a ∧ (∀ H2, Ex G H2 → SqT K H2 a vs) ∧ RepA K G ds vs := by
  cases h with
  | val h =>
    cases h with
    | tup h r => exact ⟨_, _, rfl, fun H2 g => g.sqt h, r⟩
theorem RepB.str {K : PySem.W.Frag} {G B : Hp} {z : Str} {v : V} (h : RepB K G B (.str z) v) : v = .str z := by
  cases h with
  | val h => cases h; rfl
theorem RepB.int {K : PySem.W.Frag} {G B : Hp} {z : Int} {v : V} (h : RepB K G B (.int z) v) : v = .int z := by
  cases h with
  | val h => cases h; rfl
theorem RepB.bl {K : PySem.W.Frag} {G B : Hp} {z : Bool} {v : V} (h : RepB K G B (.bool z) v) : v = .bl z := by
  cases h with
  | val h => cases h; rfl
theorem RepB.non {K : PySem.W.Frag} {G B : Hp} {v : V} (h : RepB K G B .none v) : v = .non := by
  cases h with
  | val h => cases h; rfl
section
variable {X : Cx} {tg e a b c : Expr} {f g h : SE} {pos p tpos : Pos} {elts : List Expr} {kk : Nat}
def sSeq (f : SE) : SI := fun ρ => (f ρ).bind itemsOf
theorem any_of {K : PySem.W.Frag} {B G' H' : Hp} {d : PyData} {ds : List PyData} {v : V} {R : It → Hp → Prop} (gh : Ex G' H') (bh : Ex B H') (r : RepB K G' B d v) (e2 : itemsOf d = some ds)
    (q : ∀ J, WalkD K B G' J ds → R J H') : (∃ a, v = .ref a ∧ (∃ xs, SqL K H' a xs) ∧ R (Itl K a) H') ∨ (∃ a, v = .ref a ∧ (∃ xs, SqT K H' a xs) ∧ R (Itt K a) H') ∨ ∃ z, v = .str z ∧ R (Its z) H' := by
  cases d with
  | list l =>
    cases e2
    obtain ⟨a, vs, rfl, st, ra⟩ := r.seq
    exact .inl ⟨a, rfl, ⟨vs, .inl (st _ gh bh)⟩, q _ (WalkD.list (fun H2 x y => .inl (st H2 x y)) ra)⟩
  | tuple l =>
    cases e2
    obtain ⟨a, vs, rfl, st, ra⟩ := r.seqT
    exact .inr (.inl ⟨a, rfl, ⟨vs, st _ gh⟩, q _ (WalkD.tup (fun H2 g _ => st H2 g) ra)⟩)
  | str z =>
    cases e2
    cases r.str
    exact .inr (.inr ⟨z, rfl, q _ WalkD.str⟩)
  | _ => cases e2
theorem i_val (ha : DX X .val e f) : DI X tg e false (sSeq f) := ⟨(pi_any ha.pe).imp fun σ H R ⟨G0, H0, G, ρ, ds, s, ed, q⟩ => by
  obtain ⟨d, e1, e2⟩ := bind_some ed
  exact ⟨G0, H0, G, ρ, d, s, e1, fun G' H' v gx r => any_of gx.gh (s.gx.h.trans gx.h) (.val r) e2 fun J w => q G' H' J gx w⟩⟩
theorem i_par (ha : DX X .par e f) : DI X tg e false (sSeq f) := ⟨(pi_any ha.pe).imp fun σ H R ⟨G0, H0, G, ρ, ds, s, ed, q⟩ => by
  obtain ⟨d, e1, e2⟩ := bind_some ed
  exact ⟨G0, H0, G, ρ, d, s, e1, fun G' H' v gx r => any_of gx.gh (s.gx.h.trans gx.h) r e2 fun J w => q G' H' J gx w⟩⟩
theorem i_bor (ha : DX X .bor e f) : DI X tg e true (sSeq f) := ⟨(pi_any ha.pe).imp fun σ H R ⟨G0, H0, G, ρ, ds, s, ed, q⟩ => by
  obtain ⟨d, e1, e2⟩ := bind_some ed
  exact ⟨G0, H0, G, ρ, d, s, e1, fun G' H' v gx r => any_of gx.gh (Ex.refl _) r e2 fun J w => q G' H' J gx w⟩⟩
/-- for over the script -/
theorem i_scr (ha : DX X .scr e f) : DI X tg e true (sSeq f) := ⟨(pi_any ha.pe).imp fun σ H R ⟨G0, H0, G, ρ, ds, s, ed, q⟩ => by
  obtain ⟨d, e1, e2⟩ := bind_some ed
  refine ⟨G0, H0, G, ρ, d, s, e1, fun G' H' v gx r => ?_⟩
  obtain ⟨a, ns, rfl, rfl, hq⟩ := r
  cases e2
  exact .inl ⟨a, rfl, ⟨_, hq⟩, q G' H' _ gx (WalkD.list (fun H2 _ b => b.sql hq) (RepA.ints ns))⟩⟩
def rng1 : List PyData → Option (List PyData)
  | [.int j] => if -(2 ^ 62) ≤ j ∧ j < 2 ^ 62 then some (rangeD 0 j.toNat) else none
  | _ => none
def rng2 : List PyData → Option (List PyData)
  | [.int i, .int j] => if -(2 ^ 62) ≤ i ∧ i < 2 ^ 62 ∧ -(2 ^ 62) ≤ j ∧ j < 2 ^ 62 then some (rangeD i (j - i).toNat) else none
  | _ => none
def sArgs (F : List PyData → Option (List PyData)) (r : SA) : SI := fun ρ => (r ρ).bind F
theorem RM.stay {K : PySem.W.Frag} {H0 Hs G H : Hp} {m : Md} {d : PyData} {v : V} (hmd : m = .val ∨ m = .par) (h : RM K H0 Hs m G H d v) : RepB K G H0 d v := by
  rcases hmd with rfl | rfl
  · exact .val h
  · exact h
theorem RMs.one {K : PySem.W.Frag} {H0 Hs G H : Hp} {m : Md} {d : PyData} {vs : List V} (h : RMs K H0 Hs G H [m] [d] vs) : ∃ v, vs = [v] ∧ RM K H0 Hs m G H d v := by
  cases h with
  | cons h t => cases t; exact ⟨_, rfl, h⟩
theorem RMs.two {K : PySem.W.Frag} {H0 Hs G H : Hp} {m m' : Md} {d d' : PyData} {vs : List V} (h : RMs K H0 Hs G H [m, m'] [d, d'] vs) : ∃ v v', vs = [v, v'] ∧ RM K H0 Hs m G H d v ∧ RM K H0 Hs m' G H d' v' := by
  cases h with
  | cons h t =>
    obtain ⟨w, rfl, h2⟩ := t.one
    exact ⟨_, _, rfl, h, h2⟩
theorem RMs.three {K : PySem.W.Frag} {H0 Hs G H : Hp} {m m' m2 : Md} {d d' d2 : PyData} {vs : List V} (h : RMs K H0 Hs G H [m, m', m2] [d, d', d2] vs) : ∃ v v' v2, vs = [v, v', v2] ∧ RM K H0 Hs m G H d v ∧ RM K H0 Hs m' G H d' v' ∧ RM K H0 Hs m2 G H d2 v2 := by
  cases h with
  | cons h t =>
    obtain ⟨w, w2, rfl, h2, h3⟩ := t.two
    exact ⟨_, _, _, rfl, h, h2, h3⟩
theorem i_range1 {r : SA} (hg : Gl X "range") (hm : X.mg "range" = none) (ha : DA X [.val] [a] r) (hs : starEach [a] X.env = [(false, eval a X.env)] := by rfl) : DI X tg (.Call (.Name "range" p) [a] [] pos) false (sArgs rng1 r) :=
  ⟨(pi_range1 hg hm ha.pa hs).imp fun σ H R ⟨G0, H0, G, ρ, ds, s, ed, q⟩ => by
    obtain ⟨l, e1, e2⟩ := bind_some ed
    refine ⟨G0, H0, G, ρ, l, s, e1, fun G' H' vs gx r => ?_⟩
    unfold rng1 at e2
    split at e2
    · obtain ⟨⟨h1, h2⟩, rfl⟩ := if_some e2
      obtain ⟨v, rfl, r1⟩ := r.one
      cases (show Rep X.K G' (.int _) v from r1)
      exact ⟨_, rfl, h1, h2, q G' H' _ gx WalkD.range⟩
    · cases e2⟩
theorem i_range2 {r : SA} (hg : Gl X "range") (hm : X.mg "range" = none) (ha : DA X [.val, .val] [a, b] r) (hs : starEach [a, b] X.env = [(false, eval a X.env), (false, eval b X.env)] := by rfl) (hs2 : starEach [b] X.env = [(false, eval b X.env)] := by rfl) :
    DI X tg (.Call (.Name "range" p) [a, b] [] pos) false (sArgs rng2 r) :=
  ⟨(pi_range2 hg hm ha.pa hs hs2).imp fun σ H R ⟨G0, H0, G, ρ, ds, s, ed, q⟩ => by
    obtain ⟨l, e1, e2⟩ := bind_some ed
    refine ⟨G0, H0, G, ρ, l, s, e1, fun G' H' vs gx r => ?_⟩
    unfold rng2 at e2
    split at e2
    · obtain ⟨h1, rfl⟩ := if_some e2
      obtain ⟨v, w, rfl, r1, r2⟩ := r.two
      cases (show Rep X.K G' (.int _) v from r1)
      cases (show Rep X.K G' (.int _) w from r2)
      exact ⟨_, _, rfl, h1, q G' H' _ gx WalkD.range⟩
    · cases e2⟩
def enumI : List PyData → Option (List PyData)
  | [.list l] => some (enumD 0 l)
  | _ => none
def zipI : List PyData → Option (List PyData)
  | [.list l, .list m] => some (zipD l m)
  | _ => none
theorem i_enum {m : Md} {r : SA} (hg : Gl X "enumerate") (hm : X.mg "enumerate" = none) (ha : DA X [m] [e] r) (hmd : m = .val ∨ m = .par := by first | exact Or.inl rfl | exact Or.inr rfl) (hs : starEach [e] X.env = [(false, eval e X.env)] := by rfl) :
    DI X (.Tuple elts kk tpos) (.Call (.Name "enumerate" p) [e] [] pos) false (sArgs enumI r) :=
  ⟨(pi_enum hg hm ha.pa hs).imp fun σ H R ⟨G0, H0, G, ρ, ds, s, ed, q⟩ => by
    obtain ⟨l, e1, e2⟩ := bind_some ed
    refine ⟨G0, H0, G, ρ, l, s, e1, fun G' H' vs gx r => ?_⟩
    unfold enumI at e2
    split at e2
    · cases e2
      obtain ⟨v, rfl, r1⟩ := r.one
      obtain ⟨a, us, rfl, st, ra⟩ := (r1.stay hmd).seq
      exact ⟨a, us, rfl, .inl (st _ gx.gh (s.gx.h.trans gx.h)), q G' H' _ gx (WalkD.enum (fun H2 x y => .inl (st H2 x y)) ra)⟩
    · cases e2⟩
theorem i_zip {m m' : Md} {r : SA} (hg : Gl X "zip") (hm : X.mg "zip" = none) (ha : DA X [m, m'] [e, a] r) (hmd : m = .val ∨ m = .par := by first | exact Or.inl rfl | exact Or.inr rfl) (hmd' : m' = .val ∨ m' = .par := by first | exact Or.inl rfl | exact Or.inr rfl)
    (hs : starEach [e, a] X.env = (false, eval e X.env) :: starEach [a] X.env := by rfl) (hpl : (backTo pos (starEach [a] X.env)).any (·.1) = false := by rfl) :
    DI X (.Tuple elts kk tpos) (.Call (.Name "zip" p) [e, a] [] pos) false (sArgs zipI r) :=
  ⟨(pi_zip hg hm ha.pa hs hpl).imp fun σ H R ⟨G0, H0, G, ρ, ds, s, ed, q⟩ => by
    obtain ⟨l, e1, e2⟩ := bind_some ed
    refine ⟨G0, H0, G, ρ, l, s, e1, fun G' H' vs gx r => ?_⟩
    unfold zipI at e2
    split at e2
    · cases e2
      obtain ⟨v, w, rfl, r1, r2⟩ := r.two
      obtain ⟨a, us, rfl, st, ra⟩ := (r1.stay hmd).seq
      obtain ⟨b, ws, rfl, st2, rb⟩ := (r2.stay hmd').seq
      exact ⟨a, b, us, ws, rfl, .inl (st _ gx.gh (s.gx.h.trans gx.h)), .inl (st2 _ gx.gh (s.gx.h.trans gx.h)), q G' H' _ gx (WalkD.zip (fun H2 x y => .inl (st H2 x y)) (fun H2 x y => .inl (st2 H2 x y)) ra rb)⟩
    · cases e2⟩

/-! ### targets -/
abbrev SG := PyData → Rho → Option Rho
abbrev SGs := List PyData → Rho → Option Rho
def tG (K : PySem.W.Frag) (g : SG) : TG := fun v σ H Q => ∃ G0 H0 G ρ d ρ', Sok K G0 H0 G ρ σ H ∧ Rep K G d v ∧ g d ρ = some ρ' ∧ ∀ σ', Sok K G0 H0 G ρ' σ' H → Q σ' H
def tGs (K : PySem.W.Frag) (g : SGs) : TGs := fun vs σ H Q => ∃ G0 H0 G ρ ds ρ', Sok K G0 H0 G ρ σ H ∧ RepA K G ds vs ∧ g ds ρ = some ρ' ∧ ∀ σ', Sok K G0 H0 G ρ' σ' H → Q σ' H
structure DG (X : Cx) (tg : Expr) (g : SG) : Prop where
  pg : PG X tg (tG X.K g)
structure DGs (X : Cx) (tg : List Expr) (g : SGs) : Prop where
  pgs : PGs X tg (tGs X.K g)
theorem _root_.L2.PG.imp {e : Expr} {t t' : TG} (h : PG X e t) (w : ∀ v σ H Q, t' v σ H Q → t v σ H Q) : PG X e t' := ⟨fun pins s σ H v u Q I r q => h.run pins s σ H v u Q I r (w v σ H Q q)⟩
theorem _root_.L2.PGs.imp {e : List Expr} {t t' : TGs} (h : PGs X e t) (w : ∀ v σ H Q, t' v σ H Q → t v σ H Q) : PGs X e t' := ⟨fun pins s σ H v u Q I r q => h.run pins s σ H v u Q I r (w v σ H Q q)⟩
def gV (i : Nat) : SG := fun d ρ => if i < ρ.length then some (ρ.set i (.val d)) else none
def gsNil : SGs := fun ds ρ => match ds with
  | [] => some ρ
  | _ => none
def gsCons (g : SG) (r : SGs) : SGs := fun ds ρ => match ds with
  | d :: ds => (g d ρ).bind fun ρ' => r ds ρ'
  | [] => none
def gT (n : Nat) (r : SGs) : SG := fun d ρ => match d with
  | .tuple ds => if ds.length = n then r ds ρ else none
  | _ => none
variable {x : Str}
theorem g_name (i : Nat) (hN : X.N.Nodup) (hi : X.N[i]? = some x := by rfl) (hx : Loc X.env.scope x := by first | exact Or.inl rfl | exact Or.inr rfl) (hf : X.fn x = true ∨ X.env.scope.names.lookup x = some .local := by first | exact .inl rfl | exact .inr rfl | assumption) : DG X (.Name x pos) (gV i) :=
  ⟨(pg_name hN hi hx hf).imp fun v σ H Q ⟨G0, H0, G, ρ, d, ρ', s, r, e, q⟩ => by
    obtain ⟨hl, rfl⟩ := if_some e
    exact q _ (s.setVal hl r)⟩
theorem gs_nil : DGs X [] gsNil := ⟨pgs_nil.imp fun vs σ H Q ⟨G0, H0, G, ρ, d, ρ', s, r, e, q⟩ => by
  unfold gsNil at e
  split at e
  · cases e; cases r; exact ⟨rfl, q _ s⟩
  · cases e⟩
theorem gs_cons {es : List Expr} {g : SG} {r : SGs} (h1 : DG X e g) (h2 : DGs X es r) (hs : (assignEach (e :: es) X.env).map (·.2) = assign e X.env :: (assignEach es X.env).map (·.2) := by rfl) : DGs X (e :: es) (gsCons g r) :=
  ⟨(pgs_cons h1.pg h2.pgs hs).imp fun vs σ H Q ⟨G0, H0, G, ρ, d, ρ', s, r, e, q⟩ => by
    unfold gsCons at e
    split at e
    · cases r with
      | cons r1 r2 =>
        obtain ⟨ρ1, e1, e2⟩ := bind_some e
        exact ⟨_, _, rfl, G0, H0, G, ρ, _, ρ1, s, r1, e1, fun σ1 s1 => ⟨G0, H0, G, ρ1, _, ρ', s1, r2, e2, q⟩⟩
    · cases e⟩
theorem g_tup {es : List Expr} {k : Nat} {g : SGs} {n : Nat} (hc : X.calm = true) (h : DGs X es g)
    (hn : (assignEach es X.env).length = n := by rfl) (hst : (assignEach es X.env).findIdx? (·.1) = none := by rfl) : DG X (.Tuple es k pos) (gT n g) :=
  ⟨(pg_tup hc h.pgs hn hst).imp fun v σ H Q ⟨G0, H0, G, ρ, d, ρ', s, r, e, q⟩ => by
    unfold gT at e
    split at e
    · obtain ⟨hl, e⟩ := ite_some e
      cases r with
      | tup hq ra => exact ⟨_, _, rfl, s.gx.gh.sqt hq, by rw [← ra.len]; exact hl, G0, H0, G, ρ, _, ρ', s, ra, e, q⟩
    · cases e⟩
end
end DV

namespace DV
open PySem L2

/-! ### comprehensions -/
def wipeR (ρ : Rho) : List Nat → Rho
  | [] => ρ
  | v :: vs => (wipeR ρ vs).set v .un
theorem wipeR_len (ρ : Rho) : ∀ vs : List Nat, (wipeR ρ vs).length = ρ.length
  | [] => rfl
  | v :: vs => by unfold wipeR; rw [List.length_set, wipeR_len ρ vs]
section
variable {K : PySem.W.Frag} {G0 : Fr} {B H0 G H G' H' : Hp} {ρ : Rho} {σ : L2.St} {d : PyData} {ds : List PyData}
theorem Sok.setOut (s : Sok K G0 H0 G ρ σ H) {i : Nat} (hi : ¬ i < ρ.length) : Sok K G0 H0 G (ρ.set i .un) (σ.set i none) H := by
  rw [List.set_eq_of_length_le (by omega), List.set_eq_of_length_le (by rw [s.len]; omega)]; exact s
theorem Sok.wipe (s : Sok K G0 H0 G ρ σ H) : ∀ vs : List Nat, Sok K G0 H0 G (wipeR ρ vs) (L2.wipe σ vs) H
  | [] => s
  | v :: vs => by
    show Sok K G0 H0 G ((wipeR ρ vs).set v .un) ((L2.wipe σ vs).set v none) H
    by_cases h : v < (wipeR ρ vs).length
    · exact (s.wipe vs).setUn h none
    · exact (s.wipe vs).setOut h
end
def lcGo (g : SG) (t : SB) (e : SE) (ρ : Rho) : List PyData → Option (List PyData)
  | [] => some []
  | d :: ds => (g d ρ).bind fun ρ1 => (t ρ1).bind fun k => if k = true then (e ρ1).bind fun y => (lcGo g t e ρ ds).bind fun ys => some (y :: ys) else lcGo g t e ρ ds
def eLc (f : SI) (g : SG) (t : SB) (e : SE) (vs : List Nat) : SE := fun ρ => (f ρ).bind fun ds => (lcGo g t e (wipeR ρ vs) ds).bind fun ys => if ys.length ≤ sizeLine then some (.list ys) else none
def bYes : SB := fun _ => some true
structure DTs (X : Cx) (ifs : List Expr) (f : SB) : Prop where
  pts : PTs X ifs (tT X.K f)
theorem _root_.L2.PTs.imp {X : Cx} {e : List Expr} {t t' : TT} (h : PTs X e t) (w : ∀ σ H Q, t' σ H Q → t σ H Q) : PTs X e t' := ⟨fun pins s σ H Q I q => h.run pins s σ H Q I (w σ H Q q)⟩
section
variable {X : Cx} {tg e iter c : Expr} {f : SE} {fi : SI} {g : SG} {t : SB} {pos : Pos}
theorem ts_nil : DTs X [] bYes := ⟨pts_nil.imp fun σ H Q ⟨G0, H0, G, ρ, k, s, e, q⟩ => by
  cases e
  exact q G H (Gx.refl s.gx.gh)⟩
theorem ts_one (h : DT X c t) : DTs X [c] t := ⟨pts_one h.pt⟩
/-- the target of a comprehension stores into the block's own slots alone -/
def GOwn (g : SG) (vs : List Nat) : Prop := ∀ d (ρ ρ' : Rho), g d ρ = some ρ' → ρ'.length = ρ.length
theorem wipe_eq (vs : List Nat) (σ σ' : L2.St) (hl : σ'.length = σ.length) (h : ∀ i, i ∉ vs → σ'[i]? = σ[i]?) : L2.wipe σ' vs = L2.wipe σ vs := by
  apply List.ext_getElem?
  intro i
  have get : ∀ (τ : L2.St) (vs : List Nat), (L2.wipe τ vs)[i]? = if i ∈ vs ∧ i < τ.length then some none else τ[i]? := by
    intro τ vs
    induction vs with
    | nil => simp [L2.wipe]
    | cons v r ih =>
      show ((L2.wipe τ r).set v none)[i]? = _
      by_cases hv : v = i
      · subst hv
        by_cases hlt : v < τ.length
        · rw [List.getElem?_set_self (by rw [wipe_length]; exact hlt), if_pos ⟨List.mem_cons_self, hlt⟩]
        · rw [List.set_eq_of_length_le (by rw [wipe_length]; omega), ih, if_neg (fun z => hlt z.2), if_neg (fun z => hlt z.2)]
      · rw [List.getElem?_set_ne hv, ih]
        by_cases hr : i ∈ r ∧ i < τ.length
        · rw [if_pos hr, if_pos ⟨List.mem_cons_of_mem _ hr.1, hr.2⟩]
        · rw [if_neg hr, if_neg (fun z => hr ⟨(List.mem_cons.mp z.1).resolve_left (fun q => hv q.symm), z.2⟩)]
  rw [get, get, hl]
  by_cases hi : i ∈ vs
  · by_cases hlt : i < σ.length
    · rw [if_pos ⟨hi, hlt⟩, if_pos ⟨hi, hlt⟩]
    · rw [if_neg (fun z => hlt z.2), if_neg (fun z => hlt z.2), List.getElem?_eq_none (by omega), List.getElem?_eq_none (by omega)]
  · rw [if_neg (fun z => hi z.1), if_neg (fun z => hi z.1)]; exact h i hi
end
/-! targets that touch the slots vs alone: their readings with that fact -/
def tGw (K : PySem.W.Frag) (vs : List Nat) (g : SG) : TG := fun v σ H Q => ∃ G0 H0 G ρ d ρ', Sok K G0 H0 G ρ σ H ∧ Rep K G d v ∧ g d ρ = some ρ' ∧ ∀ σ', σ'.length = σ.length → (∀ i, i ∉ vs → σ'[i]? = σ[i]?) → Sok K G0 H0 G ρ' σ' H → Q σ' H
def tGws (K : PySem.W.Frag) (vs : List Nat) (g : SGs) : TGs := fun us σ H Q => ∃ G0 H0 G ρ ds ρ', Sok K G0 H0 G ρ σ H ∧ RepA K G ds us ∧ g ds ρ = some ρ' ∧ ∀ σ', σ'.length = σ.length → (∀ i, i ∉ vs → σ'[i]? = σ[i]?) → Sok K G0 H0 G ρ' σ' H → Q σ' H
structure DGw (X : Cx) (vs : List Nat) (tg : Expr) (g : SG) : Prop where
  pg : PG X tg (tGw X.K vs g)
structure DGws (X : Cx) (vs : List Nat) (tg : List Expr) (g : SGs) : Prop where
  pgs : PGs X tg (tGws X.K vs g)
section
variable {X : Cx} {tg e : Expr} {vs : List Nat} {pos : Pos} {x : Str}
theorem gw_name (i : Nat) (hN : X.N.Nodup) (hv : i ∈ vs := by decide) (hi : X.N[i]? = some x := by rfl) (hx : Loc X.env.scope x := by first | exact Or.inl rfl | exact Or.inr rfl) (hf : X.fn x = true ∨ X.env.scope.names.lookup x = some .local := by first | exact .inl rfl | exact .inr rfl | assumption) : DGw X vs (.Name x pos) (gV i) :=
  ⟨(pg_name hN hi hx hf).imp fun v σ H Q ⟨G0, H0, G, ρ, d, ρ', s, r, e, q⟩ => by
    obtain ⟨hl, rfl⟩ := if_some e
    exact q _ (List.length_set ..) (fun j hj => List.getElem?_set_ne (show i ≠ j from fun z => hj (z ▸ hv))) (s.setVal hl r)⟩
theorem gws_nil : DGws X vs [] gsNil := ⟨pgs_nil.imp fun us σ H Q ⟨G0, H0, G, ρ, d, ρ', s, r, e, q⟩ => by
  unfold gsNil at e
  split at e
  · cases e; cases r; exact ⟨rfl, q _ rfl (fun _ _ => rfl) s⟩
  · cases e⟩
theorem gws_cons {es : List Expr} {g : SG} {r : SGs} (h1 : DGw X vs e g) (h2 : DGws X vs es r) (hs : (assignEach (e :: es) X.env).map (·.2) = assign e X.env :: (assignEach es X.env).map (·.2) := by rfl) : DGws X vs (e :: es) (gsCons g r) :=
  ⟨(pgs_cons h1.pg h2.pgs hs).imp fun us σ H Q ⟨G0, H0, G, ρ, d, ρ', s, r, e, q⟩ => by
    unfold gsCons at e
    split at e
    · cases r with
      | cons r1 r2 =>
        obtain ⟨ρ1, e1, e2⟩ := bind_some e
        exact ⟨_, _, rfl, G0, H0, G, ρ, _, ρ1, s, r1, e1, fun σ1 l1 k1 s1 => ⟨G0, H0, G, ρ1, _, ρ', s1, r2, e2, fun σ2 l2 k2 s2 => q σ2 (l2.trans l1) (fun i hi => (k2 i hi).trans (k1 i hi)) s2⟩⟩
    · cases e⟩
theorem gw_tup {es : List Expr} {k : Nat} {g : SGs} {n : Nat} (hc : X.calm = true) (h : DGws X vs es g)
    (hn : (assignEach es X.env).length = n := by rfl) (hst : (assignEach es X.env).findIdx? (·.1) = none := by rfl) : DGw X vs (.Tuple es k pos) (gT n g) :=
  ⟨(pg_tup hc h.pgs hn hst).imp fun v σ H Q ⟨G0, H0, G, ρ, d, ρ', s, r, e, q⟩ => by
    unfold gT at e
    split at e
    · obtain ⟨hl, e⟩ := ite_some e
      cases r with
      | tup hq ra => exact ⟨_, _, rfl, s.gx.gh.sqt hq, by rw [← ra.len]; exact hl, G0, H0, G, ρ, _, ρ', s, ra, e, q⟩
    · cases e⟩
end
section
variable {X : Cx} {tg elt iter : Expr} {f : SE} {fi : SI} {g : SG} {t : SB} {pos : Pos} {ifs : List Expr} {scope : Scope} {own : List (Str × Nat)}
/-- the heart of a comprehension over WalkD -/
theorem lc_loop {K : PySem.W.Frag} {G0 : Fr} {H0 G H : Hp} {ρ : Rho} {σ : L2.St} {vs : List Nat} {J : It} {ds ys : List PyData} {D : Addr} {Q : V → Hp → Prop}
    (s : Sok K G0 H0 G ρ σ H) (w : WalkD K H G J ds) (hys : lcGo g t f (wipeR ρ vs) ds = some ys) (hl : ys.length ≤ sizeLine) (hD : H D = none)
    (q : ∀ G' H' v, Gx G H G' H' → RM K H0 H .new G' H' (.list ys) v → Q v H') :
    ∃ W : Nat → Nat → Hp → Prop, (∃ m, W 0 m (upd H D (.lst []))) ∧ ∀ i m H, W i m H →
      (J.stop i H ∧ Q (.ref D) H) ∨ (J.go i H ∧ ∃ Nx : Hp → Prop, (∀ H', Nx H' → ∃ m', m' < m ∧ W (i + 1) m' H') ∧ ∀ x H', J.yld i H x H' → tGw K vs g x (L2.wipe σ vs) H' fun σ2 H2 => L2.wipe σ2 vs = L2.wipe σ vs ∧ tT K t σ2 H2 fun b H3 =>
        if b = true then tE K .val f σ2 H3 fun y H4 => ∃ acc, H4 D = some (.lst acc) ∧ acc.length < sizeLine ∧ Nx (upd H4 D (.lst (acc ++ [y]))) else Nx H3) := by
  -- the state ahead of turn i: what is made so far, what is left
  let St (i : Nat) (Hi : Hp) : Prop := ∃ Gi done rest us, Gx G H Gi Hi ∧ Gi D = none ∧ Hi D = some (.lst us) ∧ RepA K Gi done us ∧ ys = done ++ rest ∧ i ≤ ds.length ∧ lcGo g t f (wipeR ρ vs) (ds.drop i) = some rest
  refine ⟨fun i m Hi => m = ds.length - i ∧ St i Hi, ⟨_, rfl, G, [], ys, [], Gx.mine s.gx.gh hD, s.gx.gh.back hD, upd_same, .nil, rfl, Nat.zero_le _, hys⟩, ?_⟩
  rintro i m Hi ⟨rfl, Gi, done, rest, us, gx, gD, eD, ra, ey, hi, hr⟩
  have si := s.gx' gx
  by_cases hlt : i < ds.length
  · refine .inr ⟨w.goes i Gi Hi hlt gx.g gx.gh gx.h, St (i + 1), fun H' p => ⟨_, by omega, rfl, p⟩, fun x H' hy => ?_⟩
    have hd := List.getElem?_eq_getElem hlt
    obtain ⟨G3, gx3, rx⟩ := w.yields i _ Gi Hi x H' hd gx.g gx.gh gx.h hy
    rw [List.drop_eq_getElem_cons hlt] at hr
    obtain ⟨ρ1, e1, hr⟩ := bind_some hr
    obtain ⟨k, e2, hr⟩ := bind_some hr
    have s3 := (si.wipe vs).gx' gx3
    refine ⟨G0, H0, G3, _, _, ρ1, s3, rx, e1, fun σ2 l2 k2 s2 => ⟨?_, ?_⟩⟩
    · rw [wipe_eq vs (L2.wipe σ vs) σ2 l2 k2]
      exact wipe_eq vs σ (L2.wipe σ vs) (wipe_length _ _) fun j hj => wipe_out hj
    · refine ⟨G0, H0, G3, ρ1, k, s2, e2, fun G4 H4 gx4 => ?_⟩
      have gxa := (gx.trans gx3).trans gx4
      have gx34 := gx3.trans gx4
      have noD : ∀ {G' H' : Hp}, Gx Gi Hi G' H' → G' D = none ∧ H' D = some (.lst us) := fun {G' H'} gxq => by
        refine ⟨?_, gxq.h _ _ eD⟩
        cases z : G' D with
        | none => rfl
        | some u =>
          rcases gxq.nw D (by rw [z]; simp) with y | y
          · exact absurd gD y
          · rw [eD] at y; cases y
      cases k with
      | false =>
        refine iteF ⟨G4, done, rest, us, gxa, (noD gx34).1, (noD gx34).2, ra.mono gx34.g, ey, hlt, hr⟩
      | true =>
        refine iteT ?_
        obtain ⟨y, e3, hr⟩ := bind_some (show _ = _ from hr)
        obtain ⟨r2, e4, hr⟩ := bind_some hr
        cases hr
        refine ⟨G0, H0, G4, ρ1, y, s2.gx' gx4, e3, fun G5 H5 v gx5 r5 => ?_⟩
        have gx35 := gx34.trans gx5
        obtain ⟨n1, n2⟩ := noD gx35
        refine ⟨us, n2, ?_, G5, done ++ [y], r2, us ++ [v], ?_, n1, upd_same, (ra.mono gx35.g).app (.cons r5 .nil), by rw [ey]; simp, hlt, e4⟩
        · rw [← ra.len]
          have : ys.length = done.length + (r2.length + 1) := by rw [ey]; simp
          omega
        · have z := gx.trans gx35
          refine ⟨z.g, z.h.mut hD, z.gh.mut n1, z.nw⟩
  · have ei : i = ds.length := by omega
    subst ei
    rw [List.drop_length] at hr
    cases hr
    refine .inl ⟨w.stops Gi Hi gx.g gx.gh gx.h, q Gi Hi _ gx ⟨D, rfl, hD, gD, .lst eD ?_⟩⟩
    rw [ey, List.append_nil]; exact ra
theorem d_lc {wide : Bool} {vs : List Nat} (hc : X.calm = true) (hN : X.N.Nodup) (hvs : own.map (·.2) = vs) (hi : DI X tg iter wide fi) (ok : BlkOk X.N X.env.scope scope own)
    (hg : ∀ (s : Shared) (H : Hp) (C : Addr) (cl : List (Str × Addr)) (fp : List Addr), DGw (X.blk s H scope (compEnvC scope cl C X.env) fp) vs tg g)
    (ht : ∀ (s : Shared) (H : Hp) (C : Addr) (cl : List (Str × Addr)) (fp : List Addr), DTs (X.blk s H scope (compEnvC scope cl C X.env) fp) ifs t)
    (he : ∀ (s : Shared) (H : Hp) (C : Addr) (cl : List (Str × Addr)) (fp : List Addr), DX (X.blk s H scope (compEnvC scope cl C X.env) fp) .val elt f)
    (hs : ∀ x, foldedSetIterable iter X.env x = pure x := by intro _; rfl) : DX X .new (.ListComp elt [⟨tg, iter, ifs, 0⟩] scope pos) (eLc fi g t f vs) := by
  subst hvs
  exact ⟨(pe_lc hc hN hi.pi ok (fun s H C cl fp => (hg s H C cl fp).pg) (fun s H C cl fp => (ht s H C cl fp).pts) (fun s H C cl fp => (he s H C cl fp).pe) hs).imp fun σ H Q ⟨G0, H0, G, ρ, d, s, ed, q⟩ => by
    obtain ⟨ds, e1, ed⟩ := bind_some ed
    obtain ⟨ys, e2, ed⟩ := bind_some ed
    obtain ⟨hl, rfl⟩ := if_some ed
    refine ⟨G0, H0, G, ρ, ds, s, e1, fun G1 H1 J gx1 w => fun D hD => ?_⟩
    have w' : WalkD X.K H1 G1 J ds := by
      cases wide with
      | true => exact w
      | false =>
        have z := s.gx.h.trans gx1.h
        exact ⟨fun i G2 H2 a b c e => w.goes i G2 H2 a b c (z.trans e), fun G2 H2 b c e => w.stops G2 H2 b c (z.trans e), fun i d G2 H2 x H3 a b c e => w.yields i d G2 H2 x H3 a b c (z.trans e)⟩
    exact lc_loop (s.gx' gx1) w' e2 hl hD fun G' H' v gx r => q G' H' v (gx1.trans gx) (r.start gx1.h)⟩
end
end DV

namespace DV
open PySem L2

/-! ### statements -/
def OutOk (K : PySem.W.Frag) (rm : Md) (G0 : Fr) (H0 G : Hp) (D : Ends) : Out → Prop
  | .nx ρ' => ∀ G' σ' H', Ex G G' → Sok K G0 H0 G' ρ' σ' H' → D.nx σ' H'
  | .bk ρ' => ∀ G' σ' H', Ex G G' → Sok K G0 H0 G' ρ' σ' H' → D.bk σ' H'
  | .ct ρ' => ∀ G' σ' H', Ex G G' → Sok K G0 H0 G' ρ' σ' H' → D.ct σ' H'
  | .rt d => ∀ G' H' v, Gx G0.g H0 G' H' → RM K H0 H0 rm G' H' d v → D.rt v H'
def tS (K : PySem.W.Frag) (rm : Md) (f : SS) : TS := fun D σ H => ∃ G0 H0 G ρ o, Sok K G0 H0 G ρ σ H ∧ f ρ = some o ∧ OutOk K rm G0 H0 G D o
structure DS (X : Cx) (rm : Md) (st : Stmt) (f : SS) : Prop where
  ps : PS X st (tS X.K rm f)
structure DB (X : Cx) (rm : Md) (st : List Stmt) (f : SS) : Prop where
  pss : PSs X st (tS X.K rm f)
theorem OutOk.grow {K : PySem.W.Frag} {rm : Md} {G0 : Fr} {H0 G G1 : Hp} {D : Ends} {o : Out} (e : Ex G G1) (h : OutOk K rm G0 H0 G D o) : OutOk K rm G0 H0 G1 D o := by
  cases o with
  | nx ρ => exact fun G' σ' H' e2 s => h G' σ' H' (e.trans e2) s
  | bk ρ => exact fun G' σ' H' e2 s => h G' σ' H' (e.trans e2) s
  | ct ρ => exact fun G' σ' H' e2 s => h G' σ' H' (e.trans e2) s
  | rt d => exact h
def sNext : SS := fun ρ => some (.nx ρ)
def sSeqn (f g : SS) : SS := fun ρ => (f ρ).bind fun o => match o with
  | .nx ρ' => g ρ'
  | o => some o
section
variable {X : Cx} {rm : Md} {st : Stmt} {rest b1 b2 : List Stmt} {f g : SS} {e c : Expr} {fe : SE} {t : SB} {pos : Pos} {x : Str}
theorem b_nil : DB X rm [] sNext := ⟨pss_nil.imp fun D σ H ⟨G0, H0, G, ρ, o, s, e, q⟩ => by
  cases e
  exact q G σ H (Ex.refl _) s⟩
theorem seq_of {K : PySem.W.Frag} {t u : TS} (h1 : ∀ D σ H, tS K rm f D σ H → t D σ H) (h2 : ∀ D σ H, tS K rm g D σ H → u D σ H) : ∀ D σ H, tS K rm (sSeqn f g) D σ H → tSeq t u D σ H := fun D σ H ⟨G0, H0, G, ρ, o, s, e, q⟩ => by
  obtain ⟨o1, e1, e2⟩ := bind_some e
  refine h1 _ σ H ⟨G0, H0, G, ρ, o1, s, e1, ?_⟩
  cases o1 with
  | nx ρ' => exact fun G' σ' H' eg s' => h2 D σ' H' ⟨G0, H0, G', ρ', o, s', e2, q.grow eg⟩
  | bk ρ' => cases e2; exact q
  | ct ρ' => cases e2; exact q
  | rt d => cases e2; exact q
theorem b_cons (h1 : DS X rm st f) (h2 : DB X rm rest g) : DB X rm (st :: rest) (sSeqn f g) := ⟨(pss_cons h1.ps h2.pss).imp (seq_of (fun _ _ _ h => h) fun _ _ _ h => h)⟩
theorem b_one (h1 : DS X rm st f) : DB X rm [st] f := ⟨pss_one h1.ps⟩
def sBrk : SS := fun ρ => some (.bk ρ)
def sCnt : SS := fun ρ => some (.ct ρ)
theorem s_pass : DS X rm (.Pass pos) sNext := ⟨ps_pass.imp fun D σ H ⟨G0, H0, G, ρ, o, s, e, q⟩ => by
  cases e
  exact q G σ H (Ex.refl _) s⟩
theorem s_break : DS X rm (.Break pos) sBrk := ⟨ps_break.imp fun D σ H ⟨G0, H0, G, ρ, o, s, e, q⟩ => by
  cases e
  exact q G σ H (Ex.refl _) s⟩
theorem s_continue : DS X rm (.Continue pos) sCnt := ⟨ps_continue.imp fun D σ H ⟨G0, H0, G, ρ, o, s, e, q⟩ => by
  cases e
  exact q G σ H (Ex.refl _) s⟩
def sExpr (f : SE) : SS := fun ρ => (f ρ).bind fun _ => some (.nx ρ)
theorem s_expr {m : Md} (he : DX X m e fe) (hs : swapsWith e none pos.line X.env = pure false := by rfl) : DS X rm (.Expr e pos) (sExpr fe) :=
  ⟨(ps_expr he.pe hs).imp fun D σ H ⟨G0, H0, G, ρ, o, s, e, q⟩ => by
    obtain ⟨d, e1, e2⟩ := bind_some e
    cases e2
    exact ⟨G0, H0, G, ρ, d, s, e1, fun G' H' v gx r => q G' σ H' gx.g (s.gx' gx)⟩⟩
def sRet (f : SE) : SS := fun ρ => (f ρ).bind fun d => some (.rt d)
theorem s_ret (he : DX X rm e fe) (hr : rm = .val ∨ rm = .new := by first | exact Or.inl rfl | exact Or.inr rfl) : DS X rm (.Return (some e) pos) (sRet fe) :=
  ⟨(ps_ret he.pe).imp fun D σ H ⟨G0, H0, G, ρ, o, s, e, q⟩ => by
    obtain ⟨d, e1, e2⟩ := bind_some e
    cases e2
    refine ⟨G0, H0, G, ρ, d, s, e1, fun G' H' v gx r => q G' H' v (s.gx.trans gx) ?_⟩
    exact r.start s.gx.h⟩
/-- return of an own list by its name -/
def sRetOwn (i : Nat) : SS := fun ρ => match ρ[i]? with
  | some (.own d) => some (.rt d)
  | _ => none
theorem s_retOwn (i : Nat) {p : Pos} (hN : X.N[i]? = some x := by rfl) (hv : Vis X.env.scope x := by first | exact Or.inl rfl | exact Or.inr (Or.inl rfl) | exact Or.inr (Or.inr rfl)) (hd : (x == ("__debug__" : Str)) = false := by decide)
    (hcd : (x == ("__classdict__" : Str)) = false := by decide) : DS X .new (.Return (some (.Name x p)) pos) (sRetOwn i) :=
  ⟨(ps_ret (pe_var hN hv hd hcd)).imp fun D σ H ⟨G0, H0, G, ρ, o, s, e, q⟩ => by
    unfold sRetOwn at e
    split at e
    · cases e
      rename_i d h
      obtain ⟨a, h1, h2, h3, h4⟩ := s.own h
      exact ⟨_, h1, q G H _ s.gx ⟨a, rfl, h2, h3, h4⟩⟩
    · cases e⟩
def sRetN : SS := fun _ => some (.rt .none)
theorem s_retN : DS X .val (.Return none pos) sRetN := ⟨ps_retN.imp fun D σ H ⟨G0, H0, G, ρ, o, s, e, q⟩ => by
  cases e
  exact q G H _ s.gx .non⟩
def sIf (t : SB) (f g : SS) : SS := fun ρ => (t ρ).bind fun k => if k = true then f ρ else g ρ
theorem s_if (hc : DT X c t) (h1 : DB X rm b1 f) (h2 : DB X rm b2 g) : DS X rm (.If c b1 b2 pos) (sIf t f g) :=
  ⟨(ps_if hc.pt h1.pss h2.pss).imp fun D σ H ⟨G0, H0, G, ρ, o, s, e, q⟩ => by
    obtain ⟨k, e1, e2⟩ := bind_some e
    refine ⟨G0, H0, G, ρ, k, s, e1, fun G' H' gx => ?_⟩
    cases k with
    | true => exact iteT ⟨G0, H0, G', ρ, o, s.gx' gx, e2, q.grow gx.g⟩
    | false => exact iteF ⟨G0, H0, G', ρ, o, s.gx' gx, e2, q.grow gx.g⟩⟩

/-! ### stores -/
def sSet (i : Nat) (f : SE) : SS := fun ρ => (f ρ).bind fun d => if i < ρ.length then some (.nx (ρ.set i (.val d))) else none
def sOwn (i : Nat) (f : SE) : SS := fun ρ => (f ρ).bind fun d => if i < ρ.length then some (.nx (ρ.set i (.own d))) else none
theorem set_of {K : PySem.W.Frag} {i : Nat} : ∀ D σ H, tS K rm (sSet i fe) D σ H → tAsg (tE K .val fe) (gName i) D σ H := fun D σ H ⟨G0, H0, G, ρ, o, s, e, q⟩ => by
  obtain ⟨d, e1, e2⟩ := bind_some e
  obtain ⟨hl, rfl⟩ := if_some e2
  exact ⟨G0, H0, G, ρ, d, s, e1, fun G' H' v gx r => q G' _ H' gx.g ((s.gx' gx).setVal hl r)⟩
theorem own_of {K : PySem.W.Frag} {i : Nat} : ∀ D σ H, tS K rm (sOwn i fe) D σ H → tAsg (tE K .new fe) (gName i) D σ H := fun D σ H ⟨G0, H0, G, ρ, o, s, e, q⟩ => by
  obtain ⟨d, e1, e2⟩ := bind_some e
  obtain ⟨hl, rfl⟩ := if_some e2
  exact ⟨G0, H0, G, ρ, d, s, e1, fun G' H' v gx r => q G' _ H' gx.g (s.setOwn gx hl r)⟩
theorem s_set (i : Nat) {pos' : Pos} (hN : X.N.Nodup) (he : DX X .val e fe) (hi : X.N[i]? = some x := by rfl) (hx : Loc X.env.scope x := by first | exact Or.inl rfl | exact Or.inr rfl) (hs : swapsWith e (some (.Name x pos')) pos.line X.env = pure false := by rfl)
    (hf : X.fn x = true ∨ X.env.scope.names.lookup x = some .local := by first | exact .inl rfl | exact .inr rfl | assumption) : DS X rm (.Assign [.Name x pos'] e pos) (sSet i fe) := ⟨(ps_set hN hi hx he.pe hs hf).imp set_of⟩
theorem s_own (i : Nat) {pos' : Pos} (hN : X.N.Nodup) (he : DX X .new e fe) (hi : X.N[i]? = some x := by rfl) (hx : Loc X.env.scope x := by first | exact Or.inl rfl | exact Or.inr rfl) (hs : swapsWith e (some (.Name x pos')) pos.line X.env = pure false := by rfl)
    (hf : X.fn x = true ∨ X.env.scope.names.lookup x = some .local := by first | exact .inl rfl | exact .inr rfl | assumption) : DS X rm (.Assign [.Name x pos'] e pos) (sOwn i fe) := ⟨(ps_set hN hi hx he.pe hs hf).imp own_of⟩
def sAsg (f : SE) (g : SG) : SS := fun ρ => (f ρ).bind fun d => (g d ρ).bind fun ρ' => some (.nx ρ')
theorem s_asg {tg : Expr} {g : SG} (he : DX X .val e fe) (hg : DG X tg g) (hs : swapsWithSole [tg] e pos.line X.env = pure false := by rfl) (hw : swappedStores [tg] e X.env = pure none := by rfl)
    (h1 : (assignEach [tg] X.env).map (·.2) = [assign tg X.env] := by rfl) : DS X rm (.Assign [tg] e pos) (sAsg fe g) :=
  ⟨(ps_asg he.pe hg.pg hs hw h1).imp fun D σ H ⟨G0, H0, G, ρ, o, s, e, q⟩ => by
    obtain ⟨d, e1, e2⟩ := bind_some e
    obtain ⟨ρ', e3, e4⟩ := bind_some e2
    cases e4
    exact ⟨G0, H0, G, ρ, d, s, e1, fun G' H' v gx r => ⟨G0, H0, G', ρ, d, ρ', s.gx' gx, r, e3, fun σ' s' => q G' σ' H' gx.g s'⟩⟩⟩
/-- a name op= an int -/
def sAug (i : Nat) (F : PyData → PyData → Option PyData) (f : SE) : SS := fun ρ => (eV i ρ).bind fun x => (f ρ).bind fun y => (F x y).bind fun d => some (.nx (ρ.set i (.val d)))
def addI : PyData → PyData → Option PyData
  | .int i, .int j => some (.int (i + j))
  | _, _ => none
def subI : PyData → PyData → Option PyData
  | .int i, .int j => some (.int (i - j))
  | _, _ => none
theorem aug_of {op : Operator} {F : PyData → PyData → Option PyData} {k : Int → Int → Int} {i : Nat} (hF : ∀ x y d, F x y = some d → ∃ a b, x = .int a ∧ y = .int b ∧ d = .int (k a b)) :
    ∀ D σ H, tS X.K rm (sAug i F fe) D σ H → tAug i (tE X.K .val fe) (ipI k) D σ H := fun D σ H ⟨G0, H0, G, ρ, o, s, e, q⟩ => by
  obtain ⟨d1, e1, e2⟩ := bind_some e
  obtain ⟨d2, e3, e4⟩ := bind_some e2
  obtain ⟨d3, e5, e6⟩ := bind_some e4
  cases e6
  obtain ⟨a, b, rfl, rfl, rfl⟩ := hF _ _ _ e5
  unfold eV at e1
  split at e1
  · cases e1
    rename_i h
    have hi : i < ρ.length := (List.getElem?_eq_some_iff.mp h).1
    have z := s.slot i _ h
    generalize e2 : σ[i]?.getD none = w at z
    cases z with
    | val r =>
      cases r
      refine ⟨_, getD_some e2, G0, H0, G, ρ, _, s, e3, fun G' H' v gx r => ?_⟩
      cases (show Rep X.K G' (.int b) v from r)
      exact ⟨a, b, rfl, rfl, q G' _ H' gx.g ((s.gx' gx).setVal hi (.int _))⟩
  · cases e1
theorem s_augAdd (i : Nat) {pos' : Pos} (hN : X.N.Nodup) (he : DX X .val e fe) (hi : X.N[i]? = some x := by rfl) (hx : Loc X.env.scope x := by first | exact Or.inl rfl | exact Or.inr rfl)
    (hf : X.fn x = true ∨ X.env.scope.names.lookup x = some .local := by first | exact .inl rfl | exact .inr rfl | assumption) : DS X rm (.AugAssign (.Name x pos') .Add e pos) (sAug i addI fe) :=
  ⟨(ps_aug hN hi hx he.pe ip_add hf).imp (aug_of (op := .Add) fun x y d h => by
    unfold addI at h
    split at h
    · cases h; exact ⟨_, _, rfl, rfl, rfl⟩
    · cases h)⟩
theorem s_augSub (i : Nat) {pos' : Pos} (hN : X.N.Nodup) (he : DX X .val e fe) (hi : X.N[i]? = some x := by rfl) (hx : Loc X.env.scope x := by first | exact Or.inl rfl | exact Or.inr rfl)
    (hf : X.fn x = true ∨ X.env.scope.names.lookup x = some .local := by first | exact .inl rfl | exact .inr rfl | assumption) : DS X rm (.AugAssign (.Name x pos') .Sub e pos) (sAug i subI fe) :=
  ⟨(ps_aug hN hi hx he.pe ip_sub hf).imp (aug_of (op := .Sub) fun x y d h => by
    unfold subI at h
    split at h
    · cases h; exact ⟨_, _, rfl, rfl, rfl⟩
    · cases h)⟩
/-- name = [..] on one line -/
theorem s_setLcB (i : Nat) {py spos : Pos} {tg elt iter : Expr} {ifs : List Expr} {scope : Scope} {own : List (Str × Nat)} {fi : SI} {g : SG} {wide : Bool} {y : Str} (hN : X.N.Nodup) (hc : X.calm = true)
    (hsw : swapsWith (.ListComp elt [⟨tg, iter, ifs, 0⟩] scope pos) (some (.Name y py)) spos.line X.env = pure true) (hi : DI X tg iter wide fi) (ok : BlkOk X.N X.env.scope scope own)
    (hg : ∀ (s : Shared) (H : Hp) (C : Addr) (cl : List (Str × Addr)) (fp : List Addr), DGw (X.blk s H scope (compEnvC scope cl C X.env) fp) (own.map (·.2)) tg g)
    (ht : ∀ (s : Shared) (H : Hp) (C : Addr) (cl : List (Str × Addr)) (fp : List Addr), DTs (X.blk s H scope (compEnvC scope cl C X.env) fp) ifs t)
    (he : ∀ (s : Shared) (H : Hp) (C : Addr) (cl : List (Str × Addr)) (fp : List Addr), DX (X.blk s H scope (compEnvC scope cl C X.env) fp) .val elt fe)
    (hy : X.N[i]? = some y := by rfl) (hyl : X.env.scope.names.lookup y = some .local := by rfl) (hs : ∀ x, foldedSetIterable iter X.env x = pure x := by intro _; rfl) :
    (DS X rm (.Assign [.Name y py] (.ListComp elt [⟨tg, iter, ifs, 0⟩] scope pos) spos) (sSet i (eLc fi g t fe (own.map (·.2))))) ∧ DS X rm (.Assign [.Name y py] (.ListComp elt [⟨tg, iter, ifs, 0⟩] scope pos) spos) (sOwn i (eLc fi g t fe (own.map (·.2)))) := by
  have base := ps_setLc (i := i) (py := py) (spos := spos) (g := tGw X.K (own.map (·.2)) g) (tt := tT X.K t) (te := tE X.K .val fe) hc hN hy hyl hsw hi.pi ok (fun s H C cl fp => (hg s H C cl fp).pg) (fun s H C cl fp => (ht s H C cl fp).pts) (fun s H C cl fp => (he s H C cl fp).pe) hs
  have key : ∀ (σ : L2.St) (H : Hp) (Q : VK), tE X.K .new (eLc fi g t fe (own.map (·.2))) σ H Q → tLc (tI X.K wide fi) (tGw X.K (own.map (·.2)) g) (tT X.K t) (tE X.K .val fe) (own.map (·.2)) σ H Q := fun σ H Q ⟨G0, H0, G, ρ, d, s, ed, q⟩ => by
    obtain ⟨ds, e1, ed⟩ := bind_some ed
    obtain ⟨ys, e2, ed⟩ := bind_some ed
    obtain ⟨hl, rfl⟩ := if_some ed
    refine ⟨G0, H0, G, ρ, ds, s, e1, fun G1 H1 J gx1 w => fun D hD => ?_⟩
    have w' : WalkD X.K H1 G1 J ds := by
      cases wide with
      | true => exact w
      | false =>
        have z := s.gx.h.trans gx1.h
        exact ⟨fun i G2 H2 a b c e => w.goes i G2 H2 a b c (z.trans e), fun G2 H2 b c e => w.stops G2 H2 b c (z.trans e), fun i d G2 H2 x H3 a b c e => w.yields i d G2 H2 x H3 a b c (z.trans e)⟩
    exact lc_loop (s.gx' gx1) w' e2 hl hD fun G' H' v gx r => q G' H' v (gx1.trans gx) (r.start gx1.h)
  have fz : ∀ (σ : L2.St) (H : Hp) (Q : VK), tE X.K .val (eLc fi g t fe (own.map (·.2))) σ H Q → tE X.K .new (eLc fi g t fe (own.map (·.2))) σ H Q := fun σ H Q ⟨G0, H0, G, ρ, d, s, ed, q⟩ => ⟨G0, H0, G, ρ, d, s, ed, fun G' H' v x r => by
    obtain ⟨G2, x2, _, r2⟩ := RM.freeze x r
    exact q G2 H' v x2 r2⟩
  exact ⟨⟨base.imp fun D σ H h => key σ H _ (fz σ H _ (set_of D σ H h))⟩, ⟨base.imp fun D σ H h => key σ H _ (own_of D σ H h)⟩⟩
theorem s_setLc (i : Nat) {py spos : Pos} {tg elt iter : Expr} {ifs : List Expr} {scope : Scope} {own : List (Str × Nat)} {fi : SI} {g : SG} {wide : Bool} {y : Str} {vs : List Nat} (hN : X.N.Nodup) (hvs : own.map (·.2) = vs) (hc : X.calm = true)
    (hsw : swapsWith (.ListComp elt [⟨tg, iter, ifs, 0⟩] scope pos) (some (.Name y py)) spos.line X.env = pure true) (hi : DI X tg iter wide fi) (ok : BlkOk X.N X.env.scope scope own)
    (hg : ∀ (s : Shared) (H : Hp) (C : Addr) (cl : List (Str × Addr)) (fp : List Addr), DGw (X.blk s H scope (compEnvC scope cl C X.env) fp) vs tg g)
    (ht : ∀ (s : Shared) (H : Hp) (C : Addr) (cl : List (Str × Addr)) (fp : List Addr), DTs (X.blk s H scope (compEnvC scope cl C X.env) fp) ifs t)
    (he : ∀ (s : Shared) (H : Hp) (C : Addr) (cl : List (Str × Addr)) (fp : List Addr), DX (X.blk s H scope (compEnvC scope cl C X.env) fp) .val elt fe)
    (hy : X.N[i]? = some y := by rfl) (hyl : X.env.scope.names.lookup y = some .local := by rfl) (hs : ∀ x, foldedSetIterable iter X.env x = pure x := by intro _; rfl) :
    DS X rm (.Assign [.Name y py] (.ListComp elt [⟨tg, iter, ifs, 0⟩] scope pos) spos) (sSet i (eLc fi g t fe vs)) := by
  subst hvs
  exact (s_setLcB i hN hc hsw hi ok hg ht he hy hyl hs).1
theorem s_ownLc (i : Nat) {py spos : Pos} {tg elt iter : Expr} {ifs : List Expr} {scope : Scope} {own : List (Str × Nat)} {fi : SI} {g : SG} {wide : Bool} {y : Str} {vs : List Nat} (hN : X.N.Nodup) (hvs : own.map (·.2) = vs) (hc : X.calm = true)
    (hsw : swapsWith (.ListComp elt [⟨tg, iter, ifs, 0⟩] scope pos) (some (.Name y py)) spos.line X.env = pure true) (hi : DI X tg iter wide fi) (ok : BlkOk X.N X.env.scope scope own)
    (hg : ∀ (s : Shared) (H : Hp) (C : Addr) (cl : List (Str × Addr)) (fp : List Addr), DGw (X.blk s H scope (compEnvC scope cl C X.env) fp) vs tg g)
    (ht : ∀ (s : Shared) (H : Hp) (C : Addr) (cl : List (Str × Addr)) (fp : List Addr), DTs (X.blk s H scope (compEnvC scope cl C X.env) fp) ifs t)
    (he : ∀ (s : Shared) (H : Hp) (C : Addr) (cl : List (Str × Addr)) (fp : List Addr), DX (X.blk s H scope (compEnvC scope cl C X.env) fp) .val elt fe)
    (hy : X.N[i]? = some y := by rfl) (hyl : X.env.scope.names.lookup y = some .local := by rfl) (hs : ∀ x, foldedSetIterable iter X.env x = pure x := by intro _; rfl) :
    DS X rm (.Assign [.Name y py] (.ListComp elt [⟨tg, iter, ifs, 0⟩] scope pos) spos) (sOwn i (eLc fi g t fe vs)) := by
  subst hvs
  exact (s_setLcB i hN hc hsw hi ok hg ht he hy hyl hs).2

/-! ### freezing, a ghost -/
def sFz (i : Nat) (f : SS) : SS := fun ρ => match ρ[i]? with
  | some (.own d) => f (ρ.set i (.val d))
  | some (.val _) => f ρ
  | _ => none
theorem fz_of {K : PySem.W.Frag} {i : Nat} {D : Ends} {σ : L2.St} {H : Hp} (h : tS K rm (sFz i f) D σ H) : tS K rm f D σ H := by
  obtain ⟨G0, H0, G, ρ, o, s, e, q⟩ := h
  unfold sFz at e
  split at e
  · rename_i d h
    obtain ⟨G', gx, eg, s'⟩ := s.freeze h
    exact ⟨G0, H0, G', _, o, s', e, q.grow eg⟩
  · exact ⟨G0, H0, G, ρ, o, s, e, q⟩
  · cases e
theorem s_fz (i : Nat) (h : DS X rm st f) : DS X rm st (sFz i f) := ⟨h.ps.imp fun D σ H q => fz_of q⟩

/-! ### loops -/
def forGo (g : SG) (b : SS) : List PyData → Rho → Option Out
  | [], ρ => some (.nx ρ)
  | d :: ds, ρ => (g d ρ).bind fun ρ1 => (b ρ1).bind fun o => match o with
    | .nx ρ' => forGo g b ds ρ'
    | .ct ρ' => forGo g b ds ρ'
    | .bk ρ' => some (.nx ρ')
    | .rt d => some (.rt d)
def sFor (fi : SI) (g : SG) (b : SS) : SS := fun ρ => (fi ρ).bind fun ds => forGo g b ds ρ
theorem s_for {tg iter : Expr} {body : List Stmt} {fi : SI} {g : SG} (hp : PassesOwn (model X.prog X.w) X.A X.env X.xe) (hc : X.calm = true) (hi : DI X tg iter false fi) (hg : DG X tg g) (hb : DB X rm body f)
    (hs : ∀ x, foldedSetIterable iter X.env x = pure x := by intro _; rfl) : DS X rm (.For tg iter body [] pos) (sFor fi g f) :=
  ⟨(ps_for hp hc hi.pi hg.pg hb.pss hs).imp fun D σ H ⟨G0, H0, G, ρ, o, s, e, q⟩ => by
    obtain ⟨ds, e1, e2⟩ := bind_some e
    refine ⟨G0, H0, G, ρ, ds, s, e1, fun G1 H1 J gx1 w => ?_⟩
    let St (i : Nat) (σi : L2.St) (Hi : Hp) : Prop := ∃ Gi ρi, Ex G1 Gi ∧ Sok X.K G0 H0 Gi ρi σi Hi ∧ i ≤ ds.length ∧ forGo g f (ds.drop i) ρi = some o
    refine ⟨fun i m σi Hi => m = ds.length - i ∧ St i σi Hi, ⟨_, rfl, G1, ρ, Ex.refl _, s.gx' gx1, Nat.zero_le _, e2⟩, ?_⟩
    rintro i m σi Hi ⟨rfl, Gi, ρi, eg, si, hi, hr⟩
    by_cases hlt : i < ds.length
    · refine .inr ⟨w.goes i Gi Hi hlt eg si.gx.gh si.gx.h, St (i + 1), fun σ' H' p => ⟨_, by omega, rfl, p⟩, fun y H' hy => ?_⟩
      have hd := List.getElem?_eq_getElem hlt
      obtain ⟨G3, gx3, rx⟩ := w.yields i _ Gi Hi y H' hd eg si.gx.gh si.gx.h hy
      rw [List.drop_eq_getElem_cons hlt] at hr
      obtain ⟨ρ1, e1, hr⟩ := bind_some hr
      obtain ⟨o1, e2, hr⟩ := bind_some hr
      refine ⟨G0, H0, G3, ρi, _, ρ1, si.gx' gx3, rx, e1, fun σ2 s2 => ⟨G0, H0, G3, ρ1, o1, s2, e2, ?_⟩⟩
      have eg3 := eg.trans gx3.g
      cases o1 with
      | nx ρ' => exact fun G' σ' H' e4 s4 => ⟨G', ρ', eg3.trans e4, s4, hlt, hr⟩
      | ct ρ' => exact fun G' σ' H' e4 s4 => ⟨G', ρ', eg3.trans e4, s4, hlt, hr⟩
      | bk ρ' =>
        cases hr
        exact fun G' σ' H' e4 s4 => q G' σ' H' (gx1.g.trans (eg3.trans e4)) s4
      | rt d =>
        cases hr
        exact q
    · have ei : i = ds.length := by omega
      subst ei
      rw [List.drop_length] at hr
      cases hr
      exact .inl ⟨w.stops Gi Hi eg si.gx.gh si.gx.h, q Gi σi Hi (gx1.g.trans eg) si⟩⟩
def whileGo (t : SB) (b : SS) : Nat → Rho → Option Out
  | 0, _ => none
  | n + 1, ρ => (t ρ).bind fun k => if k = true then (b ρ).bind fun o => match o with
    | .nx ρ' => whileGo t b n ρ'
    | .ct ρ' => whileGo t b n ρ'
    | .bk ρ' => some (.nx ρ')
    | .rt d => some (.rt d)
    else some (.nx ρ)
def sWhile (n : Nat) (t : SB) (b : SS) : SS := fun ρ => whileGo t b n ρ
theorem s_while (n : Nat) {body : List Stmt} (hp : PassesOwn (model X.prog X.w) X.A X.env X.xe) (hc : DT X c t) (hb : DB X rm body f) : DS X rm (.While c body [] pos) (sWhile n t f) :=
  ⟨(ps_while hp hc.pt hb.pss).imp fun D σ H ⟨G0, H0, G, ρ, o, s, e, q⟩ => by
    refine ⟨fun m σi Hi => ∃ Gi ρi, Ex G Gi ∧ Sok X.K G0 H0 Gi ρi σi Hi ∧ whileGo t f m ρi = some o, ⟨n, G, ρ, Ex.refl _, s, e⟩, ?_⟩
    rintro m σi Hi ⟨Gi, ρi, eg, si, hr⟩
    cases m with
    | zero => cases hr
    | succ m =>
      obtain ⟨k, e1, hr⟩ := bind_some hr
      refine ⟨G0, H0, Gi, ρi, k, si, e1, fun G2 H2 gx2 => ?_⟩
      cases k with
      | false =>
        cases hr
        exact iteF (q G2 σi H2 (eg.trans gx2.g) (si.gx' gx2))
      | true =>
        refine iteT ?_
        obtain ⟨o1, e2, hr⟩ := bind_some (show _ = some o from hr)
        refine ⟨fun σ' H' => ∃ Gj ρj, Ex G Gj ∧ Sok X.K G0 H0 Gj ρj σ' H' ∧ whileGo t f m ρj = some o, fun σ' H' ⟨Gj, ρj, p⟩ => ⟨m, Nat.lt_succ_self _, Gj, ρj, p⟩, G0, H0, G2, ρi, o1, si.gx' gx2, e2, ?_⟩
        have eg2 := eg.trans gx2.g
        cases o1 with
        | nx ρ' => exact fun G' σ' H' e4 s4 => ⟨G', ρ', eg2.trans e4, s4, hr⟩
        | ct ρ' => exact fun G' σ' H' e4 s4 => ⟨G', ρ', eg2.trans e4, s4, hr⟩
        | bk ρ' =>
          cases hr
          exact fun G' σ' H' e4 s4 => q G' σ' H' (eg2.trans e4) s4
        | rt d =>
          cases hr
          exact q⟩
end

/-! ### defs -/
def slotsOf : List Md → List PyData → Rho
  | .bor :: ms, d :: ds => .bor d :: slotsOf ms ds
  | .scr :: ms, d :: ds => .scr d :: slotsOf ms ds
  | _ :: ms, d :: ds => .val d :: slotsOf ms ds
  | _, _ => []
def runF (n : Nat) (rm : Md) (ms : List Md) (f : SS) : List PyData → Option PyData := fun ds =>
  if ds.length = ms.length then (f (slotsOf ms ds ++ List.replicate (n - ds.length) .un)).bind fun o => match o, rm with
    | .rt d, _ => some d
    | .nx _, .val => some .none
    | _, _ => none
  else none
/-- a def's promise -/
def spD (K : PySem.W.Frag) (rm : Md) (ms : List Md) (F : List PyData → Option PyData) : Sp := fun vs H Q _ =>
  vs.length = ms.length ∧ ∃ G ds d, Ex G H ∧ RMs K H H G H ms ds vs ∧ F ds = some d ∧ ∀ G' H' v, Gx G H G' H' → RM K H H rm G' H' d v → Q v H'
def ArgMd (ms : List Md) : Prop := ∀ m ∈ ms, m = .val ∨ m = .bor ∨ m = .scr
theorem slots_ok {K : PySem.W.Frag} {H G : Hp} : ∀ {ms : List Md} {ds : List PyData} {vs : List V}, ArgMd ms → RMs K H H G H ms ds vs → (slotsOf ms ds).length = vs.length ∧
    ∀ (i : Nat) (s : Slot), (slotsOf ms ds)[i]? = some s → SlotOk K H H G H s ((vs.map some)[i]?.getD none) ∧ (∀ d, s ≠ .own d) ∧ ∀ d, s ≠ .pin d
  | _, _, _, _, .nil => ⟨rfl, fun i s h => by simp [slotsOf] at h⟩
  | m :: ms, d :: ds, v :: vs, am, .cons h t => by
    obtain ⟨l, q⟩ := slots_ok (fun m hm => am m (List.mem_cons_of_mem _ hm)) t
    have hm := am m List.mem_cons_self
    rcases hm with rfl | rfl | rfl
    · refine ⟨congrArg (· + 1) l, fun i s hs => ?_⟩
      cases i with
      | zero =>
        cases hs
        exact ⟨.val h, ⟨fun d e => (by cases e), fun d e => (by cases e)⟩⟩
      | succ i => exact q i s hs
    · refine ⟨congrArg (· + 1) l, fun i s hs => ?_⟩
      cases i with
      | zero =>
        cases hs
        exact ⟨.bor h, ⟨fun d e => (by cases e), fun d e => (by cases e)⟩⟩
      | succ i => exact q i s hs
    · refine ⟨congrArg (· + 1) l, fun i s hs => ?_⟩
      cases i with
      | zero =>
        cases hs
        exact ⟨.scr h, ⟨fun d e => (by cases e), fun d e => (by cases e)⟩⟩
      | succ i => exact q i s hs
theorem RMs.len {K : PySem.W.Frag} {H0 Hs G H : Hp} : ∀ {ms : List Md} {ds : List PyData} {vs : List V}, RMs K H0 Hs G H ms ds vs → ds.length = ms.length ∧ vs.length = ms.length
  | _, _, _, .nil => ⟨rfl, rfl⟩
  | _, _, _, .cons _ t => ⟨congrArg (· + 1) t.len.1, congrArg (· + 1) t.len.2⟩
theorem fn_ok {P : Program} {w : World} {K : PySem.W.Frag} {mg : Str → Option Value} {base : Heap} {x qual : Str} {st : Stmt} {f : Addr} {fd : FuncData} {N ps : List Str} {k n : Nat} {ms : List Md} {rm : Md} {b : SS} (F : Fun K x qual st f fd) (S : FnScope N ps (defScope st))
    (hm : ms.length = ps.length) (hn : N.length = n) (am : ArgMd ms)
    (body : ∀ (cdv : Value) (A : Around) (outer : List Env) (s : Shared) (H : Hp) (E : XK), Room k (A.deeper (PyProof.Rows.envOfC qual (defScope st) s.heap.objs.size f cdv)) → DB (cxOf CX0 P w K mg base N qual (defScope st) f cdv A outer s H E).nox rm (defBody st) b) :
    FnOk P w K mg base CX0 (k + 1) f fd ps (spD K rm ms (runF n rm ms b)) := by
  subst hn
  refine F.ok S (fun vs H Q E h => h.1.trans hm) fun cdv A outer s H vs Q E hr h => ?_
  obtain ⟨hl, G, ds, d, eg, ra, hF, q⟩ := h
  refine ⟨_, (body cdv A outer s H E hr).pss, ?_⟩
  obtain ⟨l1, so⟩ := slots_ok am ra
  have hpl : ps.length ≤ N.length := by have := congrArg List.length S.pre; rw [List.length_take] at this; omega
  obtain ⟨hl2, hF⟩ := ite_some hF
  obtain ⟨o, e1, e2⟩ := bind_some hF
  have dv : ds.length = vs.length := hl2.trans hl.symm
  refine ⟨⟨G, H, fun _ => none⟩, H, G, _, o, ⟨Gx.refl eg, ?_, fun i t ht => ?_, fun i j d1 d2 a hij h1 => ?_, fun i d h1 => ?_, Ex.refl _, fun i a vs h => (by cases h)⟩, e1, ?_⟩
  · unfold L2.start
    rw [List.length_append, List.length_append, List.length_map, List.length_replicate, List.length_replicate, l1, dv]
  · unfold L2.start
    by_cases hi : i < vs.length
    · rw [List.getElem?_append_left (by rw [l1]; exact hi)] at ht
      rw [List.getElem?_append_left (by simpa using hi)]
      exact (so i t ht).1
    · rw [List.getElem?_append_right (by rw [l1]; omega), List.getElem?_replicate] at ht
      split at ht
      · cases ht; exact .un
      · cases ht
  · exfalso
    by_cases hi : i < vs.length
    · rw [List.getElem?_append_left (by rw [l1]; exact hi)] at h1
      exact (so i _ h1).2.1 _ rfl
    · rw [List.getElem?_append_right (by rw [l1]; omega), List.getElem?_replicate] at h1
      split at h1 <;> cases h1
  · exfalso
    by_cases hi : i < vs.length
    · rw [List.getElem?_append_left (by rw [l1]; exact hi)] at h1
      exact (so i _ h1).2.2 _ rfl
    · rw [List.getElem?_append_right (by rw [l1]; omega), List.getElem?_replicate] at h1
      split at h1 <;> cases h1
  · cases o with
    | rt d' =>
      have e3 : d' = d := by cases rm <;> exact Option.some.inj e2
      subst e3
      exact fun G' H' v gx r => q G' H' v gx r
    | nx ρ' =>
      cases rm with
      | val =>
        have e3 : PyData.none = d := Option.some.inj e2
        subst e3
        exact fun G' σ' H' _ s' => q G' H' .non s'.gx .non
      | _ => cases e2
    | bk _ => cases rm <;> cases e2
    | ct _ => cases rm <;> cases e2
/-! ### calls -/
def eCall (F : List PyData → Option PyData) (r : SA) : SE := fun ρ => (r ρ).bind F
theorem RMs.call {K : PySem.W.Frag} {H0 Hs G H : Hp} : ∀ {ms : List Md} {ds : List PyData} {vs : List V}, ArgMd ms → RMs K H0 Hs G H ms ds vs → RMs K H H G H ms ds vs
  | _, _, _, _, .nil => .nil
  | m :: _, _, _, am, .cons h t => by
    refine .cons ?_ (RMs.call (fun m hm => am m (List.mem_cons_of_mem _ hm)) t)
    rcases am m List.mem_cons_self with rfl | rfl | rfl
    · exact h
    · exact h
    · exact h
section
variable {X : Cx} {rm : Md} {ms : List Md} {e : Expr} {es : List Expr} {r : SA} {pos p : Pos} {x : Str} {k : Nat} {f : Addr} {fd : FuncData} {ps : List Str} {Fn : List PyData → Option PyData}
theorem call_of {K : PySem.W.Frag} (hr : rm = .val ∨ rm = .new) (am : ArgMd ms) : ∀ σ H Q, tE K rm (eCall Fn r) σ H Q → tCall (spD K rm ms Fn) [] E0 (tA K ms r) σ H Q := fun σ H Q ⟨G0, H0, G, ρ, d, s, ed, q⟩ => by
  obtain ⟨ds, e1, e2⟩ := bind_some ed
  refine ⟨G0, H0, G, ρ, ds, s, e1, fun G' H' vs gx ra => ?_⟩
  show spD K rm ms Fn (vs ++ []) H' Q E0
  rw [List.append_nil]
  refine ⟨ra.len.2, G', ds, d, gx.gh, ra.call am, e2, fun G2 H2 v gx2 r2 => q G2 H2 v (gx.trans gx2) ?_⟩
  rcases hr with rfl | rfl
  · exact r2
  · exact RM.start gx.h r2
theorem d_call (F : FnOk X.prog X.w X.K X.mg X.base CX0 k f fd ps (spD X.K rm ms Fn)) (hr : Room k X.A) (hg : Gl X x) (hm : X.mg x = some (.ref f)) (hk : PySem.W.keepIn X.K (.ref f) = true) (hb : Binds X.K fd ps [])
    (ha : DA X ms (e :: es) r) (hrm : rm = .val ∨ rm = .new := by first | exact Or.inl rfl | exact Or.inr rfl) (am : ArgMd ms) (hdb : (x == ("__debug__" : Str)) = false := by decide) (he : starEach (e :: es) X.env = (false, eval e X.env) :: starEach es X.env := by rfl) (hpl : (backTo pos (starEach es X.env)).any (·.1) = false := by rfl) :
    DX X rm (.Call (.Name x p) (e :: es) [] pos) (eCall Fn r) :=
  ⟨(pe_call F hr hg hm hk hb .nil pass0 ha.pa hdb he hpl).imp (call_of hrm am)⟩
theorem d_call0 (F : FnOk X.prog X.w X.K X.mg X.base CX0 k f fd ps (spD X.K rm [] Fn)) (hr : Room k X.A) (hg : Gl X x) (hm : X.mg x = some (.ref f)) (hk : PySem.W.keepIn X.K (.ref f) = true) (hb : Binds X.K fd ps [])
    (hrm : rm = .val ∨ rm = .new := by first | exact Or.inl rfl | exact Or.inr rfl) (hdb : (x == ("__debug__" : Str)) = false := by decide) :
    DX X rm (.Call (.Name x p) [] [] pos) (eCall Fn aNil) :=
  ⟨(pe_call0 F hr hg hm hk hb .nil pass0 hdb).imp fun σ H Q h => by
    obtain ⟨G0, H0, G, ρ, ds, s, e1, q⟩ := call_of hrm (fun m hm => absurd hm List.not_mem_nil) σ H Q h
    cases e1
    exact q G H [] (Gx.refl s.gx.gh) .nil⟩
end
/-! ### a def that stands in the module, in one place -/
def Fn1 (P : Program) (w : World) (K : PySem.W.Frag) (mg : Str → Option Value) (base : Heap) (x : Str) (ps : List Str) (k : Nat) (rm : Md) (ms : List Md) (F : List PyData → Option PyData) : Prop :=
  ∃ (f : Addr) (fd : FuncData), FnOk P w K mg base CX0 k f fd ps (spD K rm ms F) ∧ mg x = some (.ref f) ∧ PySem.W.keepIn K (.ref f) = true ∧ Binds K fd ps []
section
variable {X : Cx} {rm : Md} {ms : List Md} {e : Expr} {es : List Expr} {r : SA} {pos p : Pos} {x : Str} {k : Nat} {ps : List Str} {Fn : List PyData → Option PyData}
theorem d_fn (F : Fn1 X.prog X.w X.K X.mg X.base x ps k rm ms Fn) (hr : Room k X.A) (ha : DA X ms (e :: es) r) (am : ArgMd ms) (hrm : rm = .val ∨ rm = .new := by first | exact Or.inl rfl | exact Or.inr rfl) (hg : Gl X x := by rfl) (hdb : (x == ("__debug__" : Str)) = false := by decide) (he : starEach (e :: es) X.env = (false, eval e X.env) :: starEach es X.env := by rfl) (hpl : (backTo pos (starEach es X.env)).any (·.1) = false := by rfl) :
    DX X rm (.Call (.Name x p) (e :: es) [] pos) (eCall Fn r) := by
  obtain ⟨f, fd, F, hm, hk, hb⟩ := F
  exact d_call F hr hg hm hk hb ha hrm am hdb he hpl
theorem d_fn0 (F : Fn1 X.prog X.w X.K X.mg X.base x ps k rm [] Fn) (hr : Room k X.A) (hrm : rm = .val ∨ rm = .new := by first | exact Or.inl rfl | exact Or.inr rfl) (hg : Gl X x := by rfl) (hdb : (x == ("__debug__" : Str)) = false := by decide) :
    DX X rm (.Call (.Name x p) [] [] pos) (eCall Fn aNil) := by
  obtain ⟨f, fd, F, hm, hk, hb⟩ := F
  exact d_call0 F hr hg hm hk hb hrm hdb
end
theorem am_nil : ArgMd [] := fun m hm => absurd hm List.not_mem_nil
theorem am_val {ms : List Md} (h : ArgMd ms) : ArgMd (.val :: ms) := fun m hm => (List.mem_cons.mp hm).elim (fun e => .inl e) (h m)
theorem am_bor {ms : List Md} (h : ArgMd ms) : ArgMd (.bor :: ms) := fun m hm => (List.mem_cons.mp hm).elim (fun e => .inr (.inl e)) (h m)
theorem am_scr {ms : List Md} (h : ArgMd ms) : ArgMd (.scr :: ms) := fun m hm => (List.mem_cons.mp hm).elim (fun e => .inr (.inr e)) (h m)
theorem v_nil : ∀ m ∈ ([] : List Md), m = .val := fun m hm => absurd hm List.not_mem_nil
theorem v_cons {ms : List Md} (h : ∀ m ∈ ms, m = .val) : ∀ m ∈ Md.val :: ms, m = .val := fun m hm => (List.mem_cons.mp hm).elim id (h m)
theorem b_nil' : ∀ m ∈ ([] : List Md), m = .bor := fun m hm => absurd hm List.not_mem_nil
theorem b_cons' {ms : List Md} (h : ∀ m ∈ ms, m = .bor) : ∀ m ∈ Md.bor :: ms, m = .bor := fun m hm => (List.mem_cons.mp hm).elim id (h m)
theorem bor1 : ∀ m ∈ [Md.bor], m = .bor := b_cons' b_nil'
theorem bor2 : ∀ m ∈ [Md.bor, Md.bor], m = .bor := b_cons' bor1
/-- the law's promise from its function -/
theorem law_sp {K : PySem.W.Frag} {H : Hp} {a : Addr} {ns : List Int} {F : List PyData → Option PyData} (hS : SqL K H a (ns.map V.int)) (h : F [.list (ns.map .int)] = some (.bool true)) :
    spD K .val [.scr] F [.ref a] H (fun v _ => v = .bl true) fun _ _ _ => False := by
  have e0 : Ex (fun _ => none) H := fun b o z => by
    have z' : (none : Option HO) = some o := z
    cases z'
  refine ⟨rfl, fun _ => none, [.list (ns.map .int)], .bool true, e0, RMs.cons (m := .scr) ⟨a, ns, rfl, rfl, hS⟩ RMs.nil, h, fun G' H' v _ r => ?_⟩
  cases (show Rep K G' (.bool true) v from r)
  rfl
end DV

namespace DV
open PySem L2

/-! ### data read from values -/
section
variable {K : PySem.W.Frag} {G H : Hp}
mutual
theorem Rep.dp (e : Ex G H) : ∀ {d : PyData} {v : V}, d.canLay0 = true → Rep K G d v → Dp K H v d
  | _, _, _, .non => .non
  | _, _, _, .bl b => .bl b
  | _, _, _, .int i => .int i
  | _, _, _, .str x => .str x
  | _, _, c, .lst h r => .lst (.inl (e.rd h)) (RepA.dp e (by simpa [PyData.canLay0] using c) r)
  | _, _, c, .tup h r => .tup (e.sqt h) (RepA.dp e (by simpa [PyData.canLay0] using c) r)
  | _, _, c, .dK h k r => by simp [PyData.canLay0] at c
  | _, _, c, .dT h k r => by simp [PyData.canLay0] at c
theorem RepA.dp (e : Ex G H) : ∀ {ds : List PyData} {vs : List V}, PyData.canLayAll0 ds = true → RepA K G ds vs → DpAll K H vs ds
  | _, _, _, .nil => .nil
  | d :: ds, _, c, .cons h r => by
    have c' : d.canLay0 = true ∧ PyData.canLayAll0 ds = true := by simpa [PyData.canLayAll0] using c
    exact .cons (Rep.dp e c'.1 h) (RepA.dp e c'.2 r)
end
theorem RepB.dp (e : Ex G H) {d : PyData} {v : V} (c : d.canLay0 = true) (h : RepB K G H d v) : Dp K H v d := by
  cases h with
  | val h => exact h.dp e c
  | lst h r => exact .lst (SqL.of h) (r.dp e (by simpa [PyData.canLay0] using c))
  | dK h k r => simp [PyData.canLay0] at c
  | dT h k r => simp [PyData.canLay0] at c
/-- a scalar's result -/
theorem scalar {m : Md} (hm : m = .val ∨ m = .bor) {d : PyData} {v : V} (r : Rep K G d v) : ∀ H0, RM K H0 H m G H d v := fun H0 => by
  rcases hm with rfl | rfl
  · exact r
  · exact .val r
end

/-! ### numbers -/
section
variable {K : PySem.W.Frag} {X : Cx}
def int2 (g : Int → Int → Option PyData) : PyData → PyData → Option PyData
  | .int i, .int j => g i j
  | _, _ => none
theorem int2_some {g : Int → Int → Option PyData} {d1 d2 d : PyData} (h : int2 g d1 d2 = some d) : ∃ i j, d1 = .int i ∧ d2 = .int j ∧ g i j = some d := by
  unfold int2 at h
  split at h
  · exact ⟨_, _, rfl, rfl, h⟩
  · cases h
/-- two ints under a condition give an int -/
def intIf (C : Int → Int → Prop) [∀ i j, Decidable (C i j)] (g : Int → Int → Int) : PyData → PyData → Option PyData := int2 fun i j => if C i j then some (.int (g i j)) else none
theorem opf_intIf (C : Int → Int → Prop) [∀ i j, Decidable (C i j)] (g : Int → Int → Int) : OpF K .val (rI C fun i j => .int (g i j)) (intIf C g) := fun G H d1 d2 d x y Q e r1 r2 h q => by
  obtain ⟨i, j, rfl, rfl, h⟩ := int2_some h
  obtain ⟨c, rfl⟩ := if_some h
  cases r1.int
  cases r2.int
  exact ⟨i, j, rfl, rfl, c, q G H _ (Gx.refl e) fun _ => .int _⟩
def oSub : PyData → PyData → Option PyData := int2 fun i j => some (.int (i - j))
theorem opf_sub : OpF K .val (rI0 fun i j => .int (i - j)) oSub := fun G H d1 d2 d x y Q e r1 r2 h q => by
  obtain ⟨i, j, rfl, rfl, h⟩ := int2_some h
  cases h
  cases r1.int
  cases r2.int
  exact ⟨i, j, rfl, rfl, q G H _ (Gx.refl e) fun _ => .int _⟩
instance (i j : Int) : Decidable (CDivW i j) := by unfold CDivW; exact inferInstance
instance (i j : Int) : Decidable (CPow i j) := by unfold CPow; exact inferInstance
instance (i j : Int) : Decidable (CMul i j) := by unfold CMul; exact inferInstance
instance (j : Int) : Decidable (0 < j ∧ j < 18446744073709551616) := inferInstance
def oFdiv := intIf (fun _ j => 0 < j ∧ j < 18446744073709551616) fun i j => i / j
theorem opf_fdiv : OpF K .val (rI CDivW fun i j => .int (i / j)) oFdiv := fun G H d1 d2 d x y Q e r1 r2 h q => by
  obtain ⟨i, j, rfl, rfl, h⟩ := int2_some h
  obtain ⟨c, rfl⟩ := if_some h
  cases r1.int
  cases r2.int
  exact ⟨i, j, rfl, rfl, wide_div (b := 64) c.1 (by omega) (by decide) (by decide), q G H _ (Gx.refl e) fun _ => .int _⟩
def oMod := intIf (fun _ j => 0 < j) fun i j => i % j
def oPow := intIf CPow fun i j => i ^ j.toNat
def oNeg : PyData → Option PyData
  | .int i => some (.int (-i))
  | _ => none
theorem unf_neg : UnF K .val (rU fun i => .int (-i)) oNeg := fun G H d1 d x Q e r1 h q => by
  unfold oNeg at h
  split at h
  · cases h
    cases r1.int
    exact ⟨_, rfl, q G H _ (Gx.refl e) fun _ => .int _⟩
  · cases h
def cmpI (p : Int → Int → Bool) : PyData → PyData → Option PyData := int2 fun i j => some (.bool (p i j))
theorem opf_cmpI (p : Int → Int → Bool) : OpF K .val (rI0 fun i j => .bl (p i j)) (cmpI p) := fun G H d1 d2 d x y Q e r1 r2 h q => by
  obtain ⟨i, j, rfl, rfl, h⟩ := int2_some h
  cases h
  cases r1.int
  cases r2.int
  exact ⟨i, j, rfl, rfl, q G H _ (Gx.refl e) fun _ => .bl _⟩
def oLt := cmpI fun i j => decide (i < j)
def oLe := cmpI fun i j => decide (i ≤ j)
def oGt := cmpI fun i j => decide (j < i)
def oGe := cmpI fun i j => decide (j ≤ i)

/-! ### +, * on any kind -/
def rOr (r r' : R2) : R2 := fun x y H Q => r x y H Q ∨ r' x y H Q
theorem OpR.or {f : Value → Value → Sem Value} {r r' : R2} (h : OpR X f r) (h' : OpR X f r') : OpR X f (rOr r r') := by
  intro pins s σ H x y v u Q I rx ry q
  rcases q with q | q
  · exact h pins s σ H x y v u Q I rx ry q
  · exact h' pins s σ H x y v u Q I rx ry q
def oAdd : PyData → PyData → Option PyData
  | .int i, .int j => some (.int (i + j))
  | .str x, .str y => if x.length + y.length ≤ sizeLine then some (.str (x ++ y)) else none
  | .list xs, .list ys => if xs.length + ys.length ≤ sizeLine then some (.list (xs ++ ys)) else none
  | _, _ => none
def oCat : PyData → PyData → Option PyData
  | .list xs, .list ys => if xs.length + ys.length ≤ sizeLine then some (.list (xs ++ ys)) else none
  | _, _ => none
def rLstCat : R2 := fun x y H Q => ∃ l b xs zs, x = .ref l ∧ y = .ref b ∧ Rd H l (.lst xs) ∧ Rd H b (.lst zs) ∧ xs.length + zs.length ≤ sizeLine ∧ ∀ p, H p = none → Q (.ref p) (upd H p (.lst (xs ++ zs)))
theorem rd_lst {pins : List (Addr × Obj)} {σ : L2.St} {H : Hp} {s : Shared} {l : Addr} {xs : List V} (I : Inv X pins σ H s) (h : Rd H l (.lst xs)) :
    xs.length ≤ sizeLine ∧ ∃ (its : List Value) (n : Nat), Vals xs its ∧ xs.length = its.length ∧ s.heap.get? l = some { cls := .type "list", data := .seq its.toArray n } := by
  obtain ⟨z, its, n, r, e⟩ := h.ok I.hok
  exact ⟨z, its, n, r, r.length, e⟩
theorem op_lstCat : OpR X (binaryOp .Add) rLstCat := by
  intro pins s σ H x y v u Q I rx ry h
  obtain ⟨l, b, xs, zs, rfl, rfl, hH, hB, hz, q⟩ := h
  cases rx
  cases ry
  obtain ⟨z, its, n, r, hl, e⟩ := rd_lst I hH
  obtain ⟨z2, its2, n2, r2, hl2, e2⟩ := rd_lst I hB
  refine PySem.P.add_list e e2 ?_ (by rw [List.size_toArray, List.size_toArray]; omega)
  have ea : its.toArray ++ its2.toArray = (its ++ its2).toArray := by simp
  rw [ea]
  exact ⟨.ref _, _, I.lnew (t' := s.toks) (r.append r2) (by rw [List.length_append]; omega), rfl, q _ I.fresh⟩
theorem RepB.rd {G H : Hp} (e : Ex G H) {ds : List PyData} {v : V} (h : RepB K G H (.list ds) v) : ∃ a vs, v = .ref a ∧ Rd H a (.lst vs) ∧ RepA K G ds vs := by
  obtain ⟨a, vs, h1, st, r⟩ := h.seq
  exact ⟨a, vs, h1, st H e (Ex.refl _), r⟩
/-- a new list as a value: frozen, or own -/
theorem newList {m : Md} (hm : m = .val ∨ m = .new) {G H : Hp} (e : Ex G H) {p : Addr} (np : H p = none) {ds : List PyData} {vs : List V} (r : RepA K G ds vs) {Q : VK}
    (q : ∀ G' H' v, Gx G H G' H' → (∀ H0, RM K H0 H m G' H' (.list ds) v) → Q v H') : Q (.ref p) (upd H p (.lst vs)) := by
  rcases hm with rfl | rfl
  · exact q _ _ _ (Gx.new e np) fun _ => .lst (.inl upd_same) (r.mono (Ex.new (e.back np)))
  · exact q _ _ _ (Gx.mine e np) fun _ => ⟨p, rfl, np, e.back np, .lst upd_same r⟩
theorem opf_cat {m : Md} (hm : m = .val ∨ m = .new) : OpF K m rLstCat oCat := fun G H d1 d2 d x y Q e r1 r2 h q => by
  unfold oCat at h
  split at h
  · obtain ⟨hl, rfl⟩ := if_some h
    obtain ⟨a, vs, rfl, h1, ra⟩ := r1.rd e
    obtain ⟨b, us, rfl, h2, rb⟩ := r2.rd e
    exact ⟨a, b, vs, us, rfl, rfl, h1, h2, by rw [← ra.len, ← rb.len]; exact hl, fun p np => newList hm e np (ra.app rb) q⟩
  · cases h
def rAddAll : R2 := rOr (rI0 fun i j => .int (i + j)) (rOr (fun x y H Q => ∃ i j, x = .str i ∧ y = .str j ∧ i.length + j.length ≤ sizeLine ∧ Q (.str (i ++ j)) H) rLstCat)
theorem op_addAll : OpR X (binaryOp .Add) rAddAll := OpR.or op_add (OpR.or op_add_str op_lstCat)
theorem opf_addAll : OpF K .val rAddAll oAdd := fun G H d1 d2 d x y Q e r1 r2 h q => by
  unfold oAdd at h
  split at h
  · cases h
    cases r1.int
    cases r2.int
    exact .inl ⟨_, _, rfl, rfl, q G H _ (Gx.refl e) fun _ => .int _⟩
  · obtain ⟨hl, rfl⟩ := if_some h
    cases r1.str
    cases r2.str
    exact .inr (.inl ⟨_, _, rfl, rfl, hl, q G H _ (Gx.refl e) fun _ => .str _⟩)
  · exact .inr (.inr (opf_cat (.inl rfl) G H _ _ d x y Q e r1 r2 h q))
  · cases h
def repS (x : Str) (n : Nat) : Str := ⟨(List.replicate n x.cps.toList).flatten.toArray⟩
def oMul : PyData → PyData → Option PyData
  | .int i, .int j => if CMul i j then some (.int (i * j)) else none
  | .str x, .int n => if 0 ≤ n ∧ n ≤ 1000 ∧ x.length ≤ 10000 then some (.str (repS x n.toNat)) else none
  | .list xs, .int n => if 0 ≤ n ∧ n ≤ 1000 ∧ xs.length ≤ 10000 then some (.list (List.replicate n.toNat xs).flatten) else none
  | _, _ => none
theorem mulOk (x : Str) (n : Int) (h : 0 ≤ n ∧ n ≤ 1000 ∧ x.length ≤ 10000) : MulOk x n := by
  obtain ⟨h0, h1, h2⟩ := h
  refine ⟨?_, fun hn _ => ?_, fun hn _ => ?_⟩
  · rw [Bool.or_eq_false_iff]; exact ⟨decide_eq_false (by omega), decide_eq_false (by omega)⟩
  · have : (10000 : Int) ≤ (2 ^ 63 - 1) / n := Int.le_ediv_of_mul_le (by omega) (by omega)
    omega
  · unfold Builtin.Str.tooLong
    have : x.length * n.toNat ≤ 10000 * 1000 := Nat.mul_le_mul h2 (by omega)
    rw [sizeLine_eq]
    exact decide_eq_false (by omega)
theorem foldl_cps (l : List Nat) : ∀ (k : Nat) (acc : List Nat), List.foldl (fun x1 x2 => x1 ++ x2) acc.toArray (List.replicate k l.toArray) = (acc ++ (List.replicate k l).flatten).toArray
  | 0, acc => by simp
  | k + 1, acc => by
    have e : acc.toArray ++ l.toArray = (acc ++ l).toArray := by simp
    have e2 : (acc ++ l) ++ (List.replicate k l).flatten = acc ++ (List.replicate (k + 1) l).flatten := by
      rw [List.replicate_succ, List.flatten_cons, List.append_assoc]
    rw [← e2, ← foldl_cps l k (acc ++ l), ← e, List.replicate_succ, List.foldl_cons]
theorem mul_repS (x : Str) (n : Int) (h : 0 ≤ n) : Txt.mul x n = repS x n.toNat := by
  unfold Txt.mul repS
  by_cases h1 : n < 1
  · have : n = 0 := by omega
    subst this
    rw [if_pos h1]; rfl
  · rw [if_neg h1]
    by_cases h2 : (n == 1 || x.length == 0) = true
    · rw [if_pos h2]
      rw [Bool.or_eq_true] at h2
      rcases h2 with h2 | h2
      · have : n = 1 := eq_of_beq h2
        subst this
        obtain ⟨c⟩ := x
        simp
      · have h3 : x.cps.size = 0 := eq_of_beq h2
        obtain ⟨c⟩ := x
        have : c = #[] := by simpa using h3
        subst this
        simp
    · rw [if_neg h2]
      have := foldl_cps x.cps.toList n.toNat []
      simp only [Array.toArray_toList, List.nil_append] at this
      rw [← this]
def rMulS : R2 := fun x y H Q => ∃ z n, x = .str z ∧ y = .int n ∧ (0 ≤ n ∧ n ≤ 1000 ∧ z.length ≤ 10000) ∧ Q (.str (repS z n.toNat)) H
theorem op_mulS : OpR X (binaryOp .Mult) rMulS := by
  intro pins s σ H x y v u Q I rx ry h
  obtain ⟨z, n, rfl, rfl, hz, q⟩ := h
  obtain ⟨t, rfl⟩ := rx
  obtain ⟨t', rfl⟩ := ry
  refine SB.mul (mulOk z n hz) fun t2 k => ?_
  rw [mul_repS z n hz.1]
  exact ⟨.str _, H, I.tok _, ⟨_, rfl⟩, q⟩
def rMulL : R2 := fun x y H Q => ∃ l k xs, x = .ref l ∧ y = .int k ∧ H l = some (.lst xs) ∧ -(2 ^ 63) ≤ k ∧ k < 2 ^ 63 ∧ xs.length * k.toNat ≤ sizeLine ∧ ∀ p, H p = none → Q (.ref p) (upd H p (.lst (List.replicate k.toNat xs).flatten))
def rMulAll : R2 := rOr (rI CMul fun i j => .int (i * j)) rMulS
def oMulS : PyData → PyData → Option PyData
  | .int i, .int j => if CMul i j then some (.int (i * j)) else none
  | .str x, .int n => if 0 ≤ n ∧ n ≤ 1000 ∧ x.length ≤ 10000 then some (.str (repS x n.toNat)) else none
  | _, _ => none
theorem op_mulAll : OpR X (binaryOp .Mult) rMulAll := OpR.or op_mul op_mulS
theorem opf_mulAll : OpF K .val rMulAll oMulS := fun G H d1 d2 d x y Q e r1 r2 h q => by
  unfold oMulS at h
  split at h
  · obtain ⟨c, rfl⟩ := if_some h
    cases r1.int
    cases r2.int
    exact .inl ⟨_, _, rfl, rfl, c, q G H _ (Gx.refl e) fun _ => .int _⟩
  · obtain ⟨c, rfl⟩ := if_some h
    cases r1.str
    cases r2.int
    exact .inr ⟨_, _, rfl, rfl, c, q G H _ (Gx.refl e) fun _ => .str _⟩
  · cases h

/-! ### ==, in, is -/
def oEq (a b : PyData) : Option PyData := if SeqAt.shaped a = true ∧ SeqAt.shaped b = true then some (.bool (PyData.eqv a b)) else none
def oNe (a b : PyData) : Option PyData := if SeqAt.shaped a = true ∧ SeqAt.shaped b = true then some (.bool (!PyData.eqv a b)) else none
theorem opf_eq : OpF K .val (rEqD K) oEq := fun G H d1 d2 d x y Q e r1 r2 h q => by
  obtain ⟨⟨c1, c2⟩, rfl⟩ := if_some h
  exact ⟨d1, d2, r1.dp e (SeqAt.canLay_of_shaped c1), r2.dp e (SeqAt.canLay_of_shaped c2), c1, c2, q G H _ (Gx.refl e) fun _ => .bl _⟩
theorem opf_ne : OpF K .val (rNeD K) oNe := fun G H d1 d2 d x y Q e r1 r2 h q => by
  obtain ⟨⟨c1, c2⟩, rfl⟩ := if_some h
  exact ⟨d1, d2, r1.dp e (SeqAt.canLay_of_shaped c1), r2.dp e (SeqAt.canLay_of_shaped c2), c1, c2, q G H _ (Gx.refl e) fun _ => .bl _⟩
def isNon : PyData → Bool
  | .none => true
  | _ => false
def oIsN (a b : PyData) : Option PyData := match b with
  | .none => some (.bool (isNon a))
  | _ => none
def oNotN (a b : PyData) : Option PyData := match b with
  | .none => some (.bool (!isNon a))
  | _ => none
theorem isN_dec {G H : Hp} {d : PyData} {v : V} (r : RepB K G H d v) : decide (v = .non) = isNon d := by
  cases r with
  | val r => cases r <;> rfl
  | lst _ _ => rfl
  | dK _ _ _ => rfl
  | dT _ _ _ => rfl
theorem opf_isN : OpF K .val (fun x y H Q => y = .non ∧ Q (.bl (decide (x = .non))) H) oIsN := fun G H d1 d2 d x y Q e r1 r2 h q => by
  unfold oIsN at h
  split at h
  · cases h
    cases r2.non
    exact ⟨rfl, q G H _ (Gx.refl e) fun _ => by rw [isN_dec r1]; exact .bl _⟩
  · cases h
theorem opf_notN : OpF K .val (fun x y H Q => y = .non ∧ Q (.bl (!decide (x = .non))) H) oNotN := fun G H d1 d2 d x y Q e r1 r2 h q => by
  unfold oNotN at h
  split at h
  · cases h
    cases r2.non
    exact ⟨rfl, q G H _ (Gx.refl e) fun _ => by rw [isN_dec r1]; exact .bl _⟩
  · cases h
def oIsB (a b : PyData) : Option PyData := match a, b with
  | .bool x, .bool y => some (.bool (decide (x = y)))
  | _, _ => none
def oNotB (a b : PyData) : Option PyData := match a, b with
  | .bool x, .bool y => some (.bool (!decide (x = y)))
  | _, _ => none
theorem opf_isB : OpF K .val rIsB oIsB := fun G H d1 d2 d x y Q e r1 r2 h q => by
  unfold oIsB at h
  split at h
  · cases h
    cases r1.bl
    cases r2.bl
    exact ⟨_, _, rfl, rfl, q G H _ (Gx.refl e) fun _ => .bl _⟩
  · cases h
theorem opf_notB : OpF K .val rNotB oNotB := fun G H d1 d2 d x y Q e r1 r2 h q => by
  unfold oNotB at h
  split at h
  · cases h
    cases r1.bl
    cases r2.bl
    exact ⟨_, _, rfl, rfl, q G H _ (Gx.refl e) fun _ => .bl _⟩
  · cases h
/-- a sign in a text -/
def oInS (a b : PyData) : Option PyData := match a, b with
  | .str x, .str y => if x.cps.size = 1 then some (.bool (decide (x.cps.getD 0 0 ∈ y.cps.toList))) else none
  | _, _ => none
def oNotInS (a b : PyData) : Option PyData := match a, b with
  | .str x, .str y => if x.cps.size = 1 then some (.bool (!decide (x.cps.getD 0 0 ∈ y.cps.toList))) else none
  | _, _ => none
theorem one_sign {x : Str} (h : x.cps.size = 1) : x = ⟨#[x.cps.getD 0 0]⟩ := by
  obtain ⟨⟨l⟩⟩ := x
  match l, h with
  | [c], _ => rfl
theorem opf_inS : OpF K .val (fun x y H Q => ∃ (c : Nat) (z : Str), x = .str ⟨#[c]⟩ ∧ y = .str z ∧ Q (.bl (decide (c ∈ z.cps.toList))) H) oInS := fun G H d1 d2 d x y Q e r1 r2 h q => by
  unfold oInS at h
  split at h
  · obtain ⟨c, rfl⟩ := if_some h
    cases r1.str
    cases r2.str
    exact ⟨_, _, congrArg _ (one_sign c), rfl, q G H _ (Gx.refl e) fun _ => .bl _⟩
  · cases h
theorem opf_notInS : OpF K .val (fun x y H Q => ∃ (c : Nat) (z : Str), x = .str ⟨#[c]⟩ ∧ y = .str z ∧ Q (.bl (!decide (c ∈ z.cps.toList))) H) oNotInS := fun G H d1 d2 d x y Q e r1 r2 h q => by
  unfold oNotInS at h
  split at h
  · obtain ⟨c, rfl⟩ := if_some h
    cases r1.str
    cases r2.str
    exact ⟨_, _, congrArg _ (one_sign c), rfl, q G H _ (Gx.refl e) fun _ => .bl _⟩
  · cases h
end
end DV

namespace DV
open PySem L2

/-! ### subscripts and slices -/
section
variable {K : PySem.W.Frag} {X : Cx} {a b e : Expr} {f g : SE} {m : Md} {pos p2 : Pos} {lo hi : Option Expr}
theorem RepA.atI {G : Hp} {ds : List PyData} {vs : List V} {i : Int} {d : PyData} (r : RepA K G ds vs) (h : L2.atI ds i = some d) : ∃ v, L2.atI vs i = some v ∧ Rep K G d v := by
  unfold L2.atI at h ⊢
  rw [r.len] at h
  cases e : ixN vs.length i with
  | none => rw [e] at h; cases h
  | some j => rw [e] at h; exact r.get h
def oIx : PyData → PyData → Option PyData
  | .list ds, .int i => atI ds i
  | .tuple ds, .int i => atI ds i
  | .str z, .int i => if z.length ≤ sizeLine then (atI z.cps.toList i).map fun c => .str ⟨#[c]⟩ else none
  | _, _ => none
theorem oIx_inv : ∀ {d1 d2 d : PyData}, oIx d1 d2 = some d → ∃ i, d2 = .int i ∧ ((∃ l, d1 = .list l ∧ atI l i = some d) ∨ (∃ l, d1 = .tuple l ∧ atI l i = some d) ∨ ∃ z c, d1 = .str z ∧ z.length ≤ sizeLine ∧ atI z.cps.toList i = some c ∧ d = .str ⟨#[c]⟩)
  | .list l, .int i, d, h => ⟨i, rfl, .inl ⟨l, rfl, h⟩⟩
  | .tuple l, .int i, d, h => ⟨i, rfl, .inr (.inl ⟨l, rfl, h⟩)⟩
  | .str z, .int i, d, h => by
    obtain ⟨hl, h⟩ := ite_some (show (if z.length ≤ sizeLine then (atI z.cps.toList i).map fun c => PyData.str ⟨#[c]⟩ else none) = some d from h)
    cases h2 : atI z.cps.toList i with
    | none => rw [h2] at h; cases h
    | some c =>
      rw [h2] at h
      cases h
      exact ⟨i, rfl, .inr (.inr ⟨z, c, rfl, hl, h2, rfl⟩)⟩
theorem opf_ix : OpF K .val (rIx K) oIx := fun G H d1 d2 d x y Q e r1 r2 h q => by
  obtain ⟨i, rfl, ⟨l, rfl, h⟩ | ⟨l, rfl, h⟩ | ⟨z, c, rfl, hl, h7, rfl⟩⟩ := oIx_inv h
  · cases r2.int
    obtain ⟨a, vs, rfl, h1, ra⟩ := r1.rd e
    obtain ⟨v, h2, h3⟩ := ra.atI h
    exact .inl ⟨a, vs, _, v, rfl, rfl, .inl h1, h2, q G H _ (Gx.refl e) fun _ => h3⟩
  · cases r2.int
    obtain ⟨a, vs, rfl, h1, ra⟩ := r1.seqT
    obtain ⟨v, h2, h3⟩ := ra.atI h
    exact .inr (.inl ⟨a, vs, _, v, rfl, rfl, h1 H e, h2, q G H _ (Gx.refl e) fun _ => h3⟩)
  · cases r2.int
    cases r1.str
    exact .inr (.inr ⟨_, _, c, rfl, rfl, hl, h7, q G H _ (Gx.refl e) fun _ => .str _⟩)
theorem d_ix (ha : DX X .bor a f) (hb : DX X .bor b g) (hs : PlainIx b := by intro _ _; rfl) : DX X .val (.Subscript a b pos) (eOp oIx f g) :=
  ⟨(pe_ix ix_seq ha.pe hb.pe hs).imp fun _ _ _ q => op_two opf_ix q⟩
/-- an item of the script -/
theorem d_ixS (ha : DX X .scr a f) (hb : DX X .val b g) (hs : PlainIx b := by intro _ _; rfl) : DX X .val (.Subscript a b pos) (eOp oIx f g) :=
  ⟨(pe_ix ix_list ha.pe hb.pe hs).imp fun σ H Q ⟨G0, H0, G, ρ, d, s, ed, q⟩ => by
    obtain ⟨d1, e1, ed⟩ := bind_some ed
    obtain ⟨d2, e2, ed⟩ := bind_some ed
    refine ⟨G0, H0, G, ρ, d1, s, e1, fun G1 H1 x gx1 r1 => ⟨G0, H0, G1, ρ, d2, s.gx' gx1, e2, fun G2 H2 y gx2 r2 => ?_⟩⟩
    obtain ⟨p, ns, rfl, rfl, hq⟩ := RepS.mono gx2.h r1
    obtain ⟨i, rfl, ⟨l, hl, h⟩ | ⟨l, hl, h⟩ | ⟨z, c, hl, _⟩⟩ := oIx_inv ed
    · cases hl
      cases (show Rep X.K G2 (.int i) y from r2)
      obtain ⟨v, h2, h3⟩ := RepA.atI (RepA.ints (K := X.K) (G := G2) ns) h
      exact ⟨p, _, _, v, rfl, rfl, hq, h2, q G2 H2 v (gx1.trans gx2) h3⟩
    · cases hl
    · cases hl⟩
/-- parts of slices -/
abbrev SO := Rho → Option (Option Int)
def tO (K : PySem.W.Frag) (f : SO) : TO := fun σ H Q => ∃ G0 H0 G ρ o, Sok K G0 H0 G ρ σ H ∧ f ρ = some o ∧ ∀ G' H', Gx G H G' H' → Q o H'
structure DO (X : Cx) (e : Option Expr) (f : SO) : Prop where
  po : PO X e (tO X.K f)
theorem _root_.L2.PO.imp {e : Option Expr} {t t' : TO} (h : PO X e t) (w : ∀ σ H Q, t' σ H Q → t σ H Q) : PO X e t' := ⟨fun pins s σ H Q I q => h.run pins s σ H Q I (w σ H Q q)⟩
def oNo : SO := fun _ => some none
def asI : PyData → Option (Option Int)
  | .int i => some (some i)
  | _ => none
def oSo (f : SE) : SO := fun ρ => (f ρ).bind asI
theorem o_no : DO X none oNo := ⟨po_none.imp fun σ H Q ⟨G0, H0, G, ρ, o, s, ed, q⟩ => by
  cases ed
  exact q G H (Gx.refl s.gx.gh)⟩
theorem o_so (h : DX X .val e f) : DO X (some e) (oSo f) := ⟨(po_some h.pe).imp fun σ H Q ⟨G0, H0, G, ρ, o, s, ed, q⟩ => by
  obtain ⟨d1, e1, ed⟩ := bind_some ed
  unfold asI at ed
  split at ed
  · cases ed
    refine ⟨G0, H0, G, ρ, _, s, e1, fun G1 H1 v gx r => ?_⟩
    cases (show Rep X.K G1 (.int _) v from r)
    exact ⟨_, rfl, q G1 H1 gx⟩
  · cases ed⟩
def cutD (xs : List PyData) (lo hi : Option Int) : List PyData := (xs.drop (HT.sIx xs.length 0 lo)).take (HT.sIx xs.length xs.length hi - HT.sIx xs.length 0 lo)
theorem RepA.cut {G : Hp} {ds : List PyData} {vs : List V} (r : RepA K G ds vs) (lo hi : Option Int) : RepA K G (cutD ds lo hi) (cutV vs lo hi) := by
  unfold cutD cutV
  rw [r.len]
  exact (r.drop _).take _
def oSl (d : PyData) (lo hi : Option Int) : Option PyData := match d with
  | .list ds => some (.list (cutD ds lo hi))
  | .str z => if z.length ≤ sizeLine then some (.str (cutS z lo hi)) else none
  | _ => none
def oSlL (d : PyData) (lo hi : Option Int) : Option PyData := match d with
  | .list ds => some (.list (cutD ds lo hi))
  | _ => none
def eSl (F : PyData → Option Int → Option Int → Option PyData) (f : SE) (g h : SO) : SE := fun ρ => (f ρ).bind fun d => (g ρ).bind fun lo => (h ρ).bind fun hi => F d lo hi
variable {gl gh : SO}
theorem sl_three {K : PySem.W.Frag} {r : V → Option Int → Option Int → Hp → VK → Prop} {mo : Md} {F : PyData → Option Int → Option Int → Option PyData}
    (hF : ∀ (G0 H0 G1 H1 G H : Hp) (d1 d : PyData) (lo hi : Option Int) (x : V) (Q : VK), Ex G H → Gx G1 H1 G H → RM K H0 H0 mo G H d1 x → F d1 lo hi = some d → (∀ G' H' v, Gx G H G' H' → RM K H0 H m G' H' d v → Q v H') → r x lo hi H Q) (hmo : ∀ {H0 Hs G H d v}, RM K H0 Hs mo G H d v → RM K H0 H0 mo G H d v) :
    ∀ σ H Q, tE K m (eSl F f gl gh) σ H Q → tSl r (tE K mo f) (tO K gl) (tO K gh) σ H Q := fun σ H Q ⟨G0, H0, G, ρ, d, s, ed, q⟩ => by
  obtain ⟨d1, e1, ed⟩ := bind_some ed
  obtain ⟨lo, e2, ed⟩ := bind_some ed
  obtain ⟨hi, e3, ed⟩ := bind_some ed
  refine ⟨G0, H0, G, ρ, d1, s, e1, fun G1 H1 x gx1 r1 => ⟨G0, H0, G1, ρ, lo, s.gx' gx1, e2, fun G2 H2 gx2 => ⟨G0, H0, G2, ρ, hi, (s.gx' gx1).gx' gx2, e3, fun G3 H3 gx3 => ?_⟩⟩⟩
  have gx := (gx1.trans gx2).trans gx3
  exact hF G0.g H0 G H G3 H3 d1 d lo hi x Q gx3.gh gx (hmo (r1.mono (gx2.trans gx3))) ed fun G' H' v gx4 r4 => q G' H' v (gx.trans gx4) (r4.start gx.h)
theorem d_slice (ha : DX X .bor e f) (hl : DO X lo gl) (hu : DO X hi gh) : DX X .val (.Subscript e (.Slice lo hi none p2) pos) (eSl oSl f gl gh) :=
  ⟨(pe_slice (SlR.or sl_list sl_str) ha.pe hl.po hu.po).imp (sl_three (mo := .bor) (fun G0 H0 G1 H1 G H d1 d lo hi x Q e gx r1 h q => by
    unfold oSl at h
    split at h
    · cases h
      obtain ⟨a, vs, rfl, h1, ra⟩ := RepB.rd e r1
      exact .inl ⟨a, vs, rfl, .inl h1, fun p np => newList (.inl rfl) e np (ra.cut lo hi) fun G' H' v gx' r' => q G' H' v gx' (r' H0)⟩
    · obtain ⟨hz, rfl⟩ := if_some h
      cases RepB.str r1
      exact .inr ⟨_, rfl, hz, q G H _ (Gx.refl e) (.str _)⟩
    · cases h) fun h => h)⟩
theorem d_sliceN (ha : DX X .bor e f) (hl : DO X lo gl) (hu : DO X hi gh) : DX X .new (.Subscript e (.Slice lo hi none p2) pos) (eSl oSlL f gl gh) :=
  ⟨(pe_slice sl_list ha.pe hl.po hu.po).imp (sl_three (mo := .bor) (fun G0 H0 G1 H1 G H d1 d lo hi x Q e gx r1 h q => by
    unfold oSlL at h
    split at h
    · cases h
      obtain ⟨a, vs, rfl, h1, ra⟩ := RepB.rd e r1
      exact ⟨a, vs, rfl, .inl h1, fun p np => newList (.inr rfl) e np (ra.cut lo hi) fun G' H' v gx' r' => q G' H' v gx' (r' H0)⟩
    · cases h) fun h => h)⟩
/-- a part of the script -/
theorem d_sliceS (ha : DX X .scr e f) (hl : DO X lo gl) (hu : DO X hi gh) : DX X .new (.Subscript e (.Slice lo hi none p2) pos) (eSl oSlL f gl gh) :=
  ⟨(pe_slice sl_list ha.pe hl.po hu.po).imp (sl_three (mo := .scr) (fun G0 H0 G1 H1 G H d1 d lo hi x Q e gx r1 h q => by
    obtain ⟨a, ns, rfl, rfl, hq⟩ := r1
    cases h
    exact ⟨a, _, rfl, hq, fun p np => newList (.inr rfl) e np ((RepA.ints ns).cut lo hi) fun G' H' v gx' r' => q G' H' v gx' (r' H0)⟩) fun h => h)⟩
def oRev : PyData → Option PyData
  | .list ds => some (.list ds.reverse)
  | _ => none
theorem d_rev {k : Nat} {p1 p3 p4 : Pos} (ha : DX X .bor e f) : DX X .new (.Subscript e (.Slice none none (some (.UnaryOp .USub (.Constant (.int 1) k p1) p3)) p4) pos) (eUn oRev f) :=
  ⟨(pe_revL ha.pe).imp fun σ H Q ⟨G0, H0, G, ρ, d, s, ed, q⟩ => by
    obtain ⟨d1, e1, ed⟩ := bind_some ed
    unfold oRev at ed
    split at ed
    · cases ed
      refine ⟨G0, H0, G, ρ, _, s, e1, fun G1 H1 x gx1 r1 => ?_⟩
      obtain ⟨a, vs, rfl, h1, ra⟩ := RepB.rd gx1.gh r1
      exact ⟨a, vs, rfl, .inl h1, fun p np => newList (.inr rfl) gx1.gh np ra.reverse fun G' H' v gx' r' => q G' H' v (gx1.trans gx') ((r' H0).start gx1.h)⟩
    · cases ed⟩
end

/-! ### calls of built-ins -/
inductive RepBA (K : PySem.W.Frag) (G H : Hp) : List PyData → List V → Prop
  | nil : RepBA K G H [] []
  | cons {d : PyData} {ds : List PyData} {v : V} {vs : List V} : RepB K G H d v → RepBA K G H ds vs → RepBA K G H (d :: ds) (v :: vs)
theorem RMs.bors {K : PySem.W.Frag} {H0 Hs G H : Hp} : ∀ {ms : List Md} {ds : List PyData} {vs : List V}, (∀ m ∈ ms, m = .bor) → RMs K H0 Hs G H ms ds vs → RepBA K G H ds vs
  | _, _, _, _, .nil => .nil
  | m :: _, _, _, q, .cons h t => by
    have e : m = .bor := q m List.mem_cons_self
    subst e
    exact .cons h (RMs.bors (fun m hm => q m (List.mem_cons_of_mem _ hm)) t)
theorem RepBA.one {K : PySem.W.Frag} {G H : Hp} {d : PyData} {vs : List V} (h : RepBA K G H [d] vs) : ∃ v, vs = [v] ∧ RepB K G H d v := by
  cases h with
  | cons h t => cases t; exact ⟨_, rfl, h⟩
theorem RepBA.two {K : PySem.W.Frag} {G H : Hp} {d d' : PyData} {vs : List V} (h : RepBA K G H [d, d'] vs) : ∃ v v', vs = [v, v'] ∧ RepB K G H d v ∧ RepB K G H d' v' := by
  cases h with
  | cons h t =>
    obtain ⟨w, rfl, h2⟩ := t.one
    exact ⟨_, _, rfl, h, h2⟩
def CallF (K : PySem.W.Frag) (m : Md) (r : List V → Hp → VK → Prop) (F : List PyData → Option PyData) : Prop :=
  ∀ (G H : Hp) (ds : List PyData) (d : PyData) (vs : List V) (Q : VK), Ex G H → RepBA K G H ds vs → F ds = some d → (∀ G' H' v, Gx G H G' H' → (∀ H0, RM K H0 H m G' H' d v) → Q v H') → r vs H Q
section
variable {K : PySem.W.Frag} {X : Cx} {e : Expr} {es : List Expr} {m : Md} {ms : List Md} {pos p : Pos} {r : List V → Hp → VK → Prop} {ra : SA} {F : List PyData → Option PyData} {x : Str} {id T : String}
theorem callB_of {K : PySem.W.Frag} (hF : CallF K m r F) (hms : ∀ m ∈ ms, m = .bor) : ∀ σ H Q, tE K m (eCall F ra) σ H Q → tCB r (tA K ms ra) σ H Q := fun σ H Q ⟨G0, H0, G, ρ, d, s, ed, q⟩ => by
  obtain ⟨ds, e1, e2⟩ := bind_some ed
  refine ⟨G0, H0, G, ρ, ds, s, e1, fun G' H' vs gx rr => ?_⟩
  exact hF G' H' ds d vs Q gx.gh (rr.bors hms) e2 fun G2 H2 v gx2 r2 => q G2 H2 v (gx.trans gx2) ((r2 H0).start gx.h)
theorem d_callB (hc : CallR X (.builtin id) r) (hF : CallF X.K m r F) (hms : ∀ m ∈ ms, m = .bor) (hg : Gl X x) (hm : X.mg x = none) (hv : bootBuiltins x = some (.builtin id)) (ha : DA X ms (e :: es) ra) (hn : x ≠ "__name__" := by decide) (hdb : (x == ("__debug__" : Str)) = false := by decide)
    (he : starEach (e :: es) X.env = (false, eval e X.env) :: starEach es X.env := by rfl) (hpl : (backTo pos (starEach es X.env)).any (·.1) = false := by rfl) : DX X m (.Call (.Name x p) (e :: es) [] pos) (eCall F ra) :=
  ⟨(pe_callB hc hg hm hv ha.pa hn hdb he hpl).imp (callB_of hF hms)⟩
theorem d_callTy (hc : CallR X (.type T) r) (hF : CallF X.K m r F) (hms : ∀ m ∈ ms, m = .bor) (hg : Gl X x) (hm : X.mg x = none) (hv : bootBuiltins x = some (.type T)) (ha : DA X ms (e :: es) ra) (hn : x ≠ "__name__" := by decide) (hdb : (x == ("__debug__" : Str)) = false := by decide)
    (he : starEach (e :: es) X.env = (false, eval e X.env) :: starEach es X.env := by rfl) (hpl : (backTo pos (starEach es X.env)).any (·.1) = false := by rfl) : DX X m (.Call (.Name x p) (e :: es) [] pos) (eCall F ra) :=
  ⟨(pe_callTy hc hg hm hv ha.pa hn hdb he hpl).imp (callB_of hF hms)⟩
end
end DV

namespace DV
open PySem L2

/-! ### the built-ins -/
section
variable {K : PySem.W.Frag} {X : Cx}
theorem RepBA.none1 {G H : Hp} {ds : List PyData} {vs : List V} (h : RepBA K G H ds vs) : ds.length = vs.length := by
  induction h with
  | nil => rfl
  | cons _ _ ih => exact congrArg (· + 1) ih
def cLen : List PyData → Option PyData
  | [.list l] => some (.int (l.length : Nat))
  | [.tuple l] => some (.int (l.length : Nat))
  | [.str z] => if z.length ≤ sizeLine then some (.int (z.length : Nat)) else none
  | _ => none
theorem cf_len : CallF K .val (fun xs H Q => ∃ x n, xs = [x] ∧ LenV K x H n ∧ Q (.int n) H) cLen := fun G H ds d vs Q e r h q => by
  unfold cLen at h
  split at h
  · cases h
    obtain ⟨v, rfl, r1⟩ := r.one
    obtain ⟨a, us, rfl, h1, ra⟩ := r1.rd e
    exact ⟨_, _, rfl, .inl ⟨us, .inl h1, ra.len⟩, q G H _ (Gx.refl e) fun _ => .int _⟩
  · cases h
    obtain ⟨v, rfl, r1⟩ := r.one
    obtain ⟨a, us, rfl, h1, ra⟩ := r1.seqT
    exact ⟨_, _, rfl, .inr ⟨us, h1 H e, ra.len⟩, q G H _ (Gx.refl e) fun _ => .int _⟩
  · obtain ⟨hz, rfl⟩ := if_some h
    obtain ⟨v, rfl, r1⟩ := r.one
    cases r1.str
    exact ⟨_, _, rfl, ⟨hz, rfl⟩, q G H _ (Gx.refl e) fun _ => .int _⟩
  · cases h
/-- int(n) -/
def cInt : List PyData → Option PyData
  | [.int i] => some (.int i)
  | [.bool k] => some (.int (if k then 1 else 0))
  | _ => none
theorem cf_int : CallF K .val (fun xs H Q => (∃ i, xs = [.int i] ∧ Q (.int i) H) ∨ ∃ k, xs = [.bl k] ∧ Q (.int (if k then 1 else 0)) H) cInt := fun G H ds d vs Q e r h q => by
  unfold cInt at h
  split at h
  · cases h
    obtain ⟨v, rfl, r1⟩ := r.one
    cases r1.int
    exact .inl ⟨_, rfl, q G H _ (Gx.refl e) fun _ => .int _⟩
  · cases h
    obtain ⟨v, rfl, r1⟩ := r.one
    cases r1.bl
    exact .inr ⟨_, rfl, q G H _ (Gx.refl e) fun _ => .int _⟩
  · cases h
def cAbs : List PyData → Option PyData
  | [.int i] => some (.int (if i < 0 then -i else i))
  | _ => none
theorem cf_abs : CallF K .val (fun xs H Q => ∃ i, xs = [.int i] ∧ Q (.int (if i < 0 then -i else i)) H) cAbs := fun G H ds d vs Q e r h q => by
  unfold cAbs at h
  split at h
  · cases h
    obtain ⟨v, rfl, r1⟩ := r.one
    cases r1.int
    exact ⟨_, rfl, q G H _ (Gx.refl e) fun _ => .int _⟩
  · cases h
def cMax2 : List PyData → Option PyData
  | [.int i, .int j] => some (.int (if j > i then j else i))
  | _ => none
def cMin2 : List PyData → Option PyData
  | [.int i, .int j] => some (.int (if j < i then j else i))
  | _ => none
theorem cf_max2 : CallF K .val (fun xs H Q => ∃ i j, xs = [.int i, .int j] ∧ Q (.int (if j > i then j else i)) H) cMax2 := fun G H ds d vs Q e r h q => by
  unfold cMax2 at h
  split at h
  · cases h
    obtain ⟨v, w, rfl, r1, r2⟩ := r.two
    cases r1.int
    cases r2.int
    exact ⟨_, _, rfl, q G H _ (Gx.refl e) fun _ => .int _⟩
  · cases h
theorem cf_min2 : CallF K .val (fun xs H Q => ∃ i j, xs = [.int i, .int j] ∧ Q (.int (if j < i then j else i)) H) cMin2 := fun G H ds d vs Q e r h q => by
  unfold cMin2 at h
  split at h
  · cases h
    obtain ⟨v, w, rfl, r1, r2⟩ := r.two
    cases r1.int
    cases r2.int
    exact ⟨_, _, rfl, q G H _ (Gx.refl e) fun _ => .int _⟩
  · cases h
/-- all ints -/
def intsOf : List PyData → Option (List Int)
  | [] => some []
  | .int i :: r => (intsOf r).map (i :: ·)
  | _ => none
theorem intsOf_some : ∀ {ds : List PyData} {ns : List Int}, intsOf ds = some ns → ds = ns.map .int
  | [], ns, h => by cases h; rfl
  | .int i :: r, ns, h => by
    unfold intsOf at h
    cases e : intsOf r with
    | none => rw [e] at h; cases h
    | some ms => rw [e] at h; cases h; rw [intsOf_some e]; rfl
theorem intsOf_map (ns : List Int) : intsOf (ns.map .int) = some ns := by
  induction ns with
  | nil => rfl
  | cons n r ih => show (intsOf (r.map .int)).map (n :: ·) = _; rw [ih]; rfl
def cSum : List PyData → Option PyData
  | [.list l] => (intsOf l).map fun ns => .int ns.sum
  | _ => none
theorem map_some {α β : Type} {o : Option α} {k : α → β} {b : β} (h : o.map k = some b) : ∃ a, o = some a ∧ k a = b := by
  cases o with
  | none => cases h
  | some a => exact ⟨a, rfl, Option.some.inj h⟩
theorem RepB.ints {G H : Hp} (e : Ex G H) {ns : List Int} {v : V} (r : RepB K G H (.list (ns.map .int)) v) : ∃ a, v = .ref a ∧ Rd H a (.lst (ns.map V.int)) := by
  obtain ⟨a, us, rfl, h1, ra⟩ := r.rd e
  cases ra.ofInts
  exact ⟨a, rfl, h1⟩
theorem cf_sum : CallF K .val (rSum K) cSum := fun G H ds d vs Q e r h q => by
  unfold cSum at h
  split at h
  · obtain ⟨ns, h1, rfl⟩ := map_some h
    obtain ⟨v, rfl, r1⟩ := r.one
    cases intsOf_some h1
    obtain ⟨a, rfl, h2⟩ := r1.ints e
    exact ⟨a, ns, rfl, .inl h2, q G H _ (Gx.refl e) fun _ => .int _⟩
  · cases h
def maxL : Int → List Int → Int
  | m, [] => m
  | m, x :: r => maxL (max m x) r
def minL : Int → List Int → Int
  | m, [] => m
  | m, x :: r => minL (min m x) r
theorem maxL_ge : ∀ (r : List Int) (m : Int), m ≤ maxL m r ∧ ∀ y ∈ r, y ≤ maxL m r
  | [], m => ⟨Int.le_refl _, fun y h => by cases h⟩
  | x :: r, m => by
    obtain ⟨h1, h2⟩ := maxL_ge r (max m x)
    refine ⟨by show m ≤ maxL (max m x) r; omega, fun y hy => ?_⟩
    show y ≤ maxL (max m x) r
    rcases List.mem_cons.mp hy with rfl | hy
    · omega
    · exact h2 y hy
theorem maxL_mem : ∀ (r : List Int) (m : Int), maxL m r = m ∨ maxL m r ∈ r
  | [], m => .inl rfl
  | x :: r, m => by
    show maxL (max m x) r = m ∨ maxL (max m x) r ∈ x :: r
    rcases maxL_mem r (max m x) with h | h
    · by_cases c : m ≤ x
      · right; rw [h, show max m x = x by omega]; exact List.mem_cons_self
      · left; rw [h]; omega
    · exact .inr (List.mem_cons_of_mem _ h)
theorem minL_le : ∀ (r : List Int) (m : Int), minL m r ≤ m ∧ ∀ y ∈ r, minL m r ≤ y
  | [], m => ⟨Int.le_refl _, fun y h => by cases h⟩
  | x :: r, m => by
    obtain ⟨h1, h2⟩ := minL_le r (min m x)
    refine ⟨by show minL (min m x) r ≤ m; omega, fun y hy => ?_⟩
    show minL (min m x) r ≤ y
    rcases List.mem_cons.mp hy with rfl | hy
    · omega
    · exact h2 y hy
theorem minL_mem : ∀ (r : List Int) (m : Int), minL m r = m ∨ minL m r ∈ r
  | [], m => .inl rfl
  | x :: r, m => by
    show minL (min m x) r = m ∨ minL (min m x) r ∈ x :: r
    rcases minL_mem r (min m x) with h | h
    · by_cases c : x ≤ m
      · right; rw [h, show min m x = x by omega]; exact List.mem_cons_self
      · left; rw [h]; omega
    · exact .inr (List.mem_cons_of_mem _ h)
def cMaxL : List PyData → Option PyData
  | [.list l] => (intsOf l).bind fun ns => match ns with
    | n :: r => some (.int (maxL n r))
    | [] => none
  | _ => none
def cMinL : List PyData → Option PyData
  | [.list l] => (intsOf l).bind fun ns => match ns with
    | n :: r => some (.int (minL n r))
    | [] => none
  | _ => none
theorem maxL_eq {n m : Int} {r : List Int} (hm : m ∈ n :: r) (hall : ∀ y, y ∈ n :: r → y ≤ m) : m = maxL n r := by
  have z1 : m ≤ maxL n r := by
    rcases List.mem_cons.mp hm with rfl | hm
    · exact (maxL_ge r _).1
    · exact (maxL_ge r n).2 m hm
  have z2 : maxL n r ≤ m := by
    rcases maxL_mem r n with z | z
    · rw [z]; exact hall n List.mem_cons_self
    · exact hall _ (List.mem_cons_of_mem _ z)
  omega
theorem cf_maxL : CallF K .val (rMax K) cMaxL := fun G H ds d vs Q e r h q => by
  unfold cMaxL at h
  split at h
  · obtain ⟨ns, h1, h2⟩ := bind_some h
    cases ns with
    | nil => cases h2
    | cons n t =>
      cases h2
      obtain ⟨v, rfl, r1⟩ := r.one
      cases intsOf_some h1
      obtain ⟨a, rfl, h2⟩ := r1.ints e
      refine ⟨a, _, rfl, .inl h2, Nat.succ_pos _, fun m hm hall => ?_⟩
      rw [maxL_eq hm hall]
      exact q G H _ (Gx.refl e) fun _ => .int _
  · cases h
theorem minL_eq {n m : Int} {r : List Int} (hm : m ∈ n :: r) (hall : ∀ y, y ∈ n :: r → m ≤ y) : m = minL n r := by
  have z1 : minL n r ≤ m := by
    rcases List.mem_cons.mp hm with rfl | hm
    · exact (minL_le r _).1
    · exact (minL_le r n).2 m hm
  have z2 : m ≤ minL n r := by
    rcases minL_mem r n with z | z
    · rw [z]; exact hall n List.mem_cons_self
    · exact hall _ (List.mem_cons_of_mem _ z)
  omega
theorem cf_minL : CallF K .val (rMin K) cMinL := fun G H ds d vs Q e r h q => by
  unfold cMinL at h
  split at h
  · obtain ⟨ns, h1, h2⟩ := bind_some h
    cases ns with
    | nil => cases h2
    | cons n t =>
      cases h2
      obtain ⟨v, rfl, r1⟩ := r.one
      cases intsOf_some h1
      obtain ⟨a, rfl, h2⟩ := r1.ints e
      refine ⟨a, _, rfl, .inl h2, Nat.succ_pos _, fun m hm hall => ?_⟩
      rw [minL_eq hm hall]
      exact q G H _ (Gx.refl e) fun _ => .int _
  · cases h
def boolsOf : List PyData → Option (List Bool)
  | [] => some []
  | .bool i :: r => (boolsOf r).map (i :: ·)
  | _ => none
theorem boolsOf_some : ∀ {ds : List PyData} {ns : List Bool}, boolsOf ds = some ns → ds = ns.map .bool
  | [], ns, h => by cases h; rfl
  | .bool i :: r, ns, h => by
    unfold boolsOf at h
    cases e : boolsOf r with
    | none => rw [e] at h; cases h
    | some ms => rw [e] at h; cases h; rw [boolsOf_some e]; rfl
theorem boolsOf_map (ns : List Bool) : boolsOf (ns.map .bool) = some ns := by
  induction ns with
  | nil => rfl
  | cons n r ih => show (boolsOf (r.map .bool)).map (n :: ·) = _; rw [ih]; rfl
theorem RepA.ofBools {G : Hp} : ∀ {ns : List Bool} {vs : List V}, RepA K G (ns.map .bool) vs → vs = ns.map V.bl
  | [], _, .nil => rfl
  | n :: r, _, .cons h t => by
    cases h
    rw [RepA.ofBools t]; rfl
def cAny : List PyData → Option PyData
  | [.list l] => (boolsOf l).map fun ns => .bool (ns.any id)
  | _ => none
theorem cf_any : CallF K .val (rAny K) cAny := fun G H ds d vs Q e r h q => by
  unfold cAny at h
  split at h
  · obtain ⟨ns, h1, rfl⟩ := map_some h
    obtain ⟨v, rfl, r1⟩ := r.one
    cases boolsOf_some h1
    obtain ⟨a, us, rfl, h2, ra⟩ := r1.rd e
    cases ra.ofBools
    exact ⟨a, ns, rfl, .inl h2, q G H _ (Gx.refl e) fun _ => .bl _⟩
  · cases h
/-- list(a list, a tuple) -/
def cList : List PyData → Option PyData
  | [.list l] => some (.list l)
  | [.tuple l] => some (.list l)
  | _ => none
theorem cf_list : CallF K .new (fun xs H Q => ∃ p ys, xs = [.ref p] ∧ (SqL K H p ys ∨ SqT K H p ys) ∧ ∀ l, H l = none → Q (.ref l) (upd H l (.lst ys))) cList := fun G H ds d vs Q e r h q => by
  unfold cList at h
  split at h
  · cases h
    obtain ⟨v, rfl, r1⟩ := r.one
    obtain ⟨a, us, rfl, h2, ra⟩ := r1.rd e
    exact ⟨a, us, rfl, .inl (.inl h2), fun p np => newList (.inr rfl) e np ra q⟩
  · cases h
    obtain ⟨v, rfl, r1⟩ := r.one
    obtain ⟨a, us, rfl, h2, ra⟩ := r1.seqT
    exact ⟨a, us, rfl, .inr (h2 H e), fun p np => newList (.inr rfl) e np ra q⟩
  · cases h
end

/-! ### isinstance of a built-in class -/
def tyName : PyData → String
  | .none => "NoneType"
  | .bool _ => "bool"
  | .int _ => "int"
  | .str _ => "str"
  | .list _ => "list"
  | .tuple _ => "tuple"
  | .dict _ => "dict"
def isT (T : String) : PyData → Option Bool
  | .bool _ => some (T == "bool" || T == "int")
  | .dict _ => none
  | d => some (tyName d == T)
def eIs (T : String) (f : SE) : SE := fun ρ => (f ρ).bind fun d => (isT T d).map .bool
theorem rep_ty {K : PySem.W.Frag} {G H : Hp} (e : Ex G H) {d : PyData} {v : V} (nd : ∀ es, d ≠ .dict es) (r : RepB K G H d v) : TyX K H v (.type (tyName d)) := by
  cases r with
  | lst h _ => exact .base (.lst h)
  | dK h _ _ => exact .base (.dK h)
  | dT h _ _ => exact .base (.dT h)
  | val r =>
    cases r with
    | non => exact .base .non
    | bl b => exact .base (.bl b)
    | int i => exact .base (.int i)
    | str x => exact .base (.str x)
    | lst h _ =>
      rcases e.rd h with h | ⟨o, h⟩
      · exact .base (.lst h)
      · exact .base (.frz h)
    | tup h _ =>
      rcases e.sqt h with (h | ⟨o, h⟩) | ⟨o, its, n, k, c, _⟩
      · exact .base (.tup h)
      · exact .fTuple h
      · exact .kTuple k c
    | dK h _ _ => exact absurd rfl (nd _)
    | dT h _ _ => exact absurd rfl (nd _)
/-- the built-in class T, for which the model's own answers are what isT says -/
def TyOkT (T : String) : Prop := ∀ n ∈ ["NoneType", "int", "str", "list", "tuple"], kitB n T = some (n == T)
theorem d_isi {X : Cx} {T : String} {a : Expr} {f : SE} {y : Str} {p p1 pos : Pos} (hg : Gl X "isinstance") (hm : X.mg "isinstance" = none) (ha : DX X .bor a f)
    (hgT : Gl X y) (hmT : X.mg y = none) (hvT : bootBuiltins y = some (.type T)) (ok : TyOkT T) (okB : kitB "bool" T = some (T == "bool" || T == "int"))
    (hnT : y ≠ "__name__" := by decide) (hdT : (y == ("__debug__" : Str)) = false := by decide)
    (he : starEach [a, .Name y p1] X.env = (false, eval a X.env) :: starEach [.Name y p1] X.env := by rfl) (hpl : (backTo pos (starEach [.Name y p1] X.env)).any (·.1) = false := by rfl) (h2 : starEach [.Name y p1] X.env = (false, eval (.Name y p1) X.env) :: starEach [] X.env := by rfl) :
    DX X .val (.Call (.Name "isinstance" p) [a, .Name y p1] [] pos) (eIs T f) :=
  ⟨(pe_callB call_isi hg hm PyProof.Rows.boot_isinstance (pa_cons ha.pe (pa_cons (pe_bltn (v := .ty T) hgT hmT hvT rfl hnT hdT) pa_nil h2) he) (by decide) (by decide) he hpl).imp fun σ H Q ⟨G0, H0, G, ρ, d, s, ed, q⟩ => by
    obtain ⟨d1, e1, ed⟩ := bind_some ed
    obtain ⟨k, e2, rfl⟩ := map_some ed
    refine ⟨G0, H0, G, ρ, d1, s, e1, fun G1 H1 v gx r => ?_⟩
    have nd : ∀ es, d1 ≠ .dict es := fun es z => by subst z; cases e2
    have kk : kitB (tyName d1) T = some k := by
      cases d1 with
      | bool b => rw [show tyName (.bool b) = "bool" from rfl, okB]; exact e2
      | dict es => exact absurd rfl (nd es)
      | none => rw [ok _ (by decide)]; exact e2
      | int i => rw [show tyName (.int i) = "int" from rfl, ok _ (by decide)]; exact e2
      | str i => rw [show tyName (.str i) = "str" from rfl, ok _ (by decide)]; exact e2
      | list i => rw [show tyName (.list i) = "list" from rfl, ok _ (by decide)]; exact e2
      | tuple i => rw [show tyName (.tuple i) = "tuple" from rfl, ok _ (by decide)]; exact e2
    exact ⟨v, .ty T, .type (tyName d1), .type T, k, rfl, .ty T, rep_ty gx.gh nd r, kit_ty kk, q G1 H1 _ gx (.bl _)⟩⟩
theorem okT_int : TyOkT "int" := by unfold TyOkT; decide +kernel
theorem okT_bool : TyOkT "bool" := by unfold TyOkT; decide +kernel
theorem okT_tuple : TyOkT "tuple" := by unfold TyOkT; decide +kernel
theorem okT_list : TyOkT "list" := by unfold TyOkT; decide +kernel
theorem okT_str : TyOkT "str" := by unfold TyOkT; decide +kernel

/-! ### own lists change -/
section
variable {X : Cx} {rm : Md} {a b e : Expr} {f g : SE} {r : SA} {pos p2 p1 cpos apos : Pos} {x : Str}
/-- what an own slot holds becomes F of it and a value -/
def sMut (F : List PyData → List PyData → Option PyData) (i : Nat) (r : SA) : SS := fun ρ => match ρ[i]? with
  | some (.own (.list l)) => (r ρ).bind fun ds => (F l ds).bind fun d => some (.nx (ρ.set i (.own d)))
  | _ => none
theorem own_list {K : PySem.W.Frag} {G H : Hp} {a : Addr} {l : List PyData} (h : Own K G H a (.list l)) : ∃ vs, H a = some (.lst vs) ∧ RepA K G l vs := by
  cases h with
  | lst h r => exact ⟨_, h, r⟩
/-- a method of an own list that is dropped as a statement -/
theorem mut_of {K : PySem.W.Frag} {i : Nat} {ms : List Md} {rr : V → List V → Hp → VK → Prop} {F : List PyData → List PyData → Option PyData}
    (hF : ∀ (G H : Hp) (l ds : List PyData) (d : PyData) (vs us : List V) (p : Addr) (Q : VK), Ex G H → H p = some (.lst vs) → RepA K G l vs → RepA K G ds us → F l ds = some d → (∀ o v, Own K G (upd H p o) p d → Q v (upd H p o)) → rr (.ref p) us H Q)
    (hms : ∀ m ∈ ms, m = .val) : ∀ D σ H, tS K rm (sMut F i r) D σ H → tDrop (tBM K "list" rr (tVar i) (tA K ms r)) D σ H := fun D σ H ⟨G0, H0, G, ρ, o, s, e, q⟩ => by
  unfold sMut at e
  split at e
  · rename_i l h
    obtain ⟨ds, e1, e⟩ := bind_some e
    obtain ⟨d, e2, e⟩ := bind_some e
    cases e
    obtain ⟨p, h1, h2, h3, h4⟩ := s.own h
    obtain ⟨vs, hv, _⟩ := own_list h4
    refine ⟨_, h1, .inl ⟨rfl, _, SqL.of hv⟩, G0, H0, G, ρ, ds, s, e1, fun G1 H1 us gx ra => ?_⟩
    have s1 := s.gx' gx
    obtain ⟨p', k1, k2, k3, k4⟩ := s1.own h
    rw [h1] at k1; cases k1
    obtain ⟨vs', hv', rl⟩ := own_list k4
    exact hF G1 H1 l ds d vs' us p _ gx.gh hv' rl (ra.vals hms) e2 fun o v ow => q G1 σ _ gx.g (s1.write h h1 k2 k3 ow)
  · cases e
def fApp : List PyData → List PyData → Option PyData := fun l ds => match ds with
  | [d] => if l.length < sizeLine then some (.list (l ++ [d])) else none
  | _ => none
theorem s_app (i : Nat) (ha : DX X .val a f) (hN : X.N[i]? = some x := by rfl) (hv : Vis X.env.scope x := by first | exact Or.inl rfl | exact Or.inr (Or.inl rfl) | exact Or.inr (Or.inr rfl)) (hd : (x == ("__debug__" : Str)) = false := by decide)
    (hcd : (x == ("__classdict__" : Str)) = false := by decide)
    (hbase : attributeBase (.Name x p1) "append" X.env (eval (.Name x p1) X.env) = eval (.Name x p1) X.env := by rfl)
    (hfew : ((backTo cpos (starEach (a :: []) X.env)).all (fun x => !x.1) && (backToKw cpos (keywordEach [] X.env)).all (fun x => x.1.isSome)
      && decide ((a :: []).length + ([] : List Keyword).length + (if ([] : List Keyword).isEmpty then 0 else 1) < 30)) = true := by rfl)
    (hline : (apos.endLine == cpos.line) = true := by rfl) (hs : starEach (a :: []) X.env = (false, eval a X.env) :: starEach [] X.env := by rfl) (hplain : (backTo cpos (starEach [] X.env)).any (·.1) = false := by rfl)
    (hsw : swapsWith (.Call (.Attribute (.Name x p1) "append" apos) [a] [] cpos) none pos.line X.env = pure false := by rfl) :
    DS X rm (.Expr (.Call (.Attribute (.Name x p1) "append" apos) [a] [] cpos) pos) (sMut fApp i (aCons f aNil)) :=
  ⟨(ps_expr (pe_bm PySem.F.plainAttrs_list PySem.F.slot_list_append PySem.F.type_list_append mt_append (pv i hN hv hd hcd) (a_cons ha a_nil hs).pa hbase hfew hline hs hplain) hsw).imp
    (mut_of (fun G H l ds d vs us p Q e hv rl ra h q => by
      unfold fApp at h
      split at h
      · obtain ⟨hl, rfl⟩ := if_some h
        cases ra with
        | cons r1 t =>
          cases t
          exact ⟨p, vs, _, rfl, rfl, hv, by rw [← rl.len]; exact hl, q _ _ (.lst upd_same (rl.app (.cons r1 .nil)))⟩
      · cases h) (fun m hm => List.mem_singleton.mp hm))⟩
def fExt : List PyData → List PyData → Option PyData := fun l ds => match ds with
  | [.list k] => if l.length + k.length ≤ sizeLine then some (.list (l ++ k)) else none
  | _ => none
def rExtR : V → List V → Hp → VK → Prop := fun x vs H Q => ∃ l b xs zs, x = .ref l ∧ vs = [.ref b] ∧ H l = some (.lst xs) ∧ Rd H b (.lst zs) ∧ xs.length + zs.length ≤ sizeLine ∧ Q .non (upd H l (.lst (xs ++ zs)))
def fIns : List PyData → List PyData → Option PyData := fun l ds => match ds with
  | [.int i, d] => if l.length < sizeLine ∧ 0 ≤ i ∧ i < 2 ^ 63 then some (.list (l.take i.toNat ++ [d] ++ l.drop i.toNat)) else none
  | _ => none
theorem s_ins (i : Nat) (ha : DX X .val a f) (hb : DX X .val b g) (hN : X.N[i]? = some x := by rfl) (hv : Vis X.env.scope x := by first | exact Or.inl rfl | exact Or.inr (Or.inl rfl) | exact Or.inr (Or.inr rfl)) (hd : (x == ("__debug__" : Str)) = false := by decide)
    (hcd : (x == ("__classdict__" : Str)) = false := by decide)
    (hbase : attributeBase (.Name x p1) "insert" X.env (eval (.Name x p1) X.env) = eval (.Name x p1) X.env := by rfl)
    (hfew : ((backTo cpos (starEach [a, b] X.env)).all (fun x => !x.1) && (backToKw cpos (keywordEach [] X.env)).all (fun x => x.1.isSome)
      && decide ([a, b].length + ([] : List Keyword).length + (if ([] : List Keyword).isEmpty then 0 else 1) < 30)) = true := by rfl)
    (hline : (apos.endLine == cpos.line) = true := by rfl) (hs : starEach [a, b] X.env = (false, eval a X.env) :: starEach [b] X.env := by rfl) (hs2 : starEach [b] X.env = (false, eval b X.env) :: starEach [] X.env := by rfl) (hplain : (backTo cpos (starEach [b] X.env)).any (·.1) = false := by rfl)
    (hsw : swapsWith (.Call (.Attribute (.Name x p1) "insert" apos) [a, b] [] cpos) none pos.line X.env = pure false := by rfl) :
    DS X rm (.Expr (.Call (.Attribute (.Name x p1) "insert" apos) [a, b] [] cpos) pos) (sMut fIns i (aCons f (aCons g aNil))) :=
  ⟨(ps_expr (pe_bm PySem.F.plainAttrs_list PySem.F.slot_list_insert PySem.F.type_list_insert mt_insert (pv i hN hv hd hcd) (a_cons ha (a_cons hb a_nil hs2) hs).pa hbase hfew hline hs hplain) hsw).imp
    (mut_of (fun G H l ds d vs us p Q e hv rl ra h q => by
      unfold fIns at h
      split at h
      · obtain ⟨⟨hl, h0, h1⟩, rfl⟩ := if_some h
        cases ra with
        | cons r1 t =>
          cases t with
          | cons r2 t =>
            cases t
            cases r1
            exact ⟨p, vs, _, _, rfl, rfl, hv, by rw [← rl.len]; exact hl, h0, h1, q _ _ (.lst upd_same (((rl.take _).app (.cons r2 .nil)).app (rl.drop _)))⟩
      · cases h) (fun m hm => by simp at hm; exact hm))⟩
/-- x[i] = v of an own list -/
def fSet : List PyData → List PyData → Option PyData := fun l ds => match ds with
  | [.int k, d] => (ixN l.length k).map fun j => .list (l.set j d)
  | _ => none
/-- the value first, then the index -/
def sPut (i : Nat) (fv fi : SE) : SS := fun ρ => (fv ρ).bind fun d => match ρ[i]? with
  | some (.own (.list l)) => (fi ρ).bind fun k => (fSet l [k, d]).bind fun d' => some (.nx (ρ.set i (.own d')))
  | _ => none
theorem s_put (i : Nat) {tpos : Pos} (he : DX X .val e g) (hi : DX X .val b f) (hN : X.N[i]? = some x := by rfl) (hv : Vis X.env.scope x := by first | exact Or.inl rfl | exact Or.inr (Or.inl rfl) | exact Or.inr (Or.inr rfl)) (hd : (x == ("__debug__" : Str)) = false := by decide)
    (hcd : (x == ("__classdict__" : Str)) = false := by decide)
    (ha : ∀ v, assign (.Subscript (.Name x p1) b tpos) X.env v = (do
      let ov ← holding [v] (eval (.Name x p1) X.env)
      let iv ← holding [v, ov] (eval b X.env)
      standAt tpos
      holding [v, ov, iv] (setItem ov iv v)
      release [v, ov, iv] []) := by intro _; rfl)
    (hs : swapsWithSole [.Subscript (.Name x p1) b tpos] e pos.line X.env = pure false := by rfl) (hw : swappedStores [.Subscript (.Name x p1) b tpos] e X.env = pure none := by rfl)
    (h1 : (assignEach [.Subscript (.Name x p1) b tpos] X.env).map (·.2) = [assign (.Subscript (.Name x p1) b tpos) X.env] := by rfl) : DS X rm (.Assign [.Subscript (.Name x p1) b tpos] e pos) (sPut i g f) :=
  ⟨(ps_asg he.pe (pg_sub (pv i hN hv hd hcd) hi.pe set_list ha) hs hw h1).imp fun D σ H ⟨G0, H0, G, ρ, o, s, e, q⟩ => by
    obtain ⟨d, e1, e⟩ := bind_some e
    split at e
    · rename_i l h
      obtain ⟨k, e2, e⟩ := bind_some e
      obtain ⟨d', e3, e⟩ := bind_some e
      cases e
      refine ⟨G0, H0, G, ρ, d, s, e1, fun G1 H1 v gx r1 => ?_⟩
      have s1 := s.gx' gx
      obtain ⟨p, h1, h2, h3, h4⟩ := s1.own h
      refine ⟨_, h1, G0, H0, G1, ρ, k, s1, e2, fun G2 H2 y gx2 r2 => ?_⟩
      have s2 := s1.gx' gx2
      obtain ⟨p', k1, k2, k3, k4⟩ := s2.own h
      rw [h1] at k1; cases k1
      obtain ⟨vs, hv', rl⟩ := own_list k4
      unfold fSet at e3
      split at e3
      · rename_i kk dd hk
        cases hk
        obtain ⟨j, hj, rfl⟩ := map_some e3
        cases (show Rep X.K G2 (.int kk) y from r2)
        refine ⟨p, vs, kk, j, rfl, rfl, hv', by rw [← rl.len]; exact hj, ?_⟩
        exact q G2 σ _ (gx.g.trans gx2.g) (s2.write h h1 k2 k3 (.lst upd_same (rl.set j (Rep.mono gx2.g r1))))
      · cases e3
    · cases e⟩
end
/-- the length of the script -/
theorem d_lenS {X : Cx} {a : Expr} {f : SE} {p pos : Pos} (ha : DX X .scr a f) (hm : X.mg "len" = none) (hg : Gl X "len" := by rfl) (he : starEach [a] X.env = (false, eval a X.env) :: starEach [] X.env := by rfl) (hpl : (backTo pos (starEach [] X.env)).any (·.1) = false := by rfl) :
    DX X .val (.Call (.Name "len" p) [a] [] pos) (eCall cLen (aCons f aNil)) :=
  ⟨(pe_callB call_len hg hm PySem.boot_len (pa_cons ha.pe pa_nil he) (by decide) (by decide) he hpl).imp fun σ H Q ⟨G0, H0, G, ρ, d, s, ed, q⟩ => by
    obtain ⟨ds, e1, e2⟩ := bind_some ed
    obtain ⟨d1, e3, e4⟩ := bind_some e1
    obtain ⟨_, e5, e6⟩ := bind_some e4
    cases e5
    cases e6
    refine ⟨G0, H0, G, ρ, d1, s, e3, fun G1 H1 v gx r => ?_⟩
    obtain ⟨b, ns, rfl, rfl, hq⟩ := r
    cases e2
    refine ⟨_, _, rfl, .inl ⟨_, hq, rfl⟩, ?_⟩
    rw [List.length_map, ← List.length_map (f := PyData.int)]
    exact q G1 H1 _ gx (.int _)⟩
theorem d_vp {X : Cx} {a : Expr} {f : SE} (h : DX X .val a f) : DX X .par a f := ⟨h.pe.imp fun σ H Q ⟨G0, H0, G, ρ, d, s, ed, q⟩ => ⟨G0, H0, G, ρ, d, s, ed, fun G' H' v x r => q G' H' v x (.val r)⟩⟩
end DV

namespace DV
open PySem L2
/-! ### how the functions on data reckon -/
section
variable {i j : Int} {ρ : Rho} {f g h : SE} {d : PyData} {r : SA} {k n : Nat}
def getS : Rho → Nat → Option Slot
  | [], _ => none
  | s :: _, 0 => some s
  | _ :: r, k + 1 => getS r k
theorem bind_congr1 {α β : Type} {x y : Option α} {f : α → Option β} (h : x = y) : x.bind f = y.bind f := by rw [h]
@[simp] theorem eK_r : eK d ρ = some d := rfl
theorem getS_eq : ∀ (ρ : Rho) (k : Nat), getS ρ k = ρ[k]?
  | [], _ => by simp [getS]
  | s :: _, 0 => rfl
  | s :: r, k + 1 => by
    show getS r k = _
    rw [getS_eq r k]; rfl
@[simp] theorem getS_0 {s : Slot} : getS (s :: ρ) 0 = some s := rfl
@[simp] theorem getS_s {s : Slot} : getS (s :: ρ) (k + 1) = getS ρ k := rfl
@[simp] theorem eV_0 : eV 0 (.val d :: ρ) = some d := rfl
@[simp] theorem eV_s {s : Slot} : eV (k + 1) (s :: ρ) = eV k ρ := rfl
@[simp] theorem eB_0v : eB 0 (.val d :: ρ) = some d := rfl
@[simp] theorem eB_0b : eB 0 (.bor d :: ρ) = some d := rfl
@[simp] theorem eB_0p : eB 0 (.pin d :: ρ) = some d := rfl
@[simp] theorem eB_0o : eB 0 (.own d :: ρ) = some d := rfl
@[simp] theorem eB_s {s : Slot} : eB (k + 1) (s :: ρ) = eB k ρ := rfl
@[simp] theorem eP_0v : eP 0 (.val d :: ρ) = some d := rfl
@[simp] theorem eP_0b : eP 0 (.bor d :: ρ) = some d := rfl
@[simp] theorem eP_s {s : Slot} : eP (k + 1) (s :: ρ) = eP k ρ := rfl
@[simp] theorem eS_0 : eS 0 (.scr d :: ρ) = some d := rfl
@[simp] theorem eS_s {s : Slot} : eS (k + 1) (s :: ρ) = eS k ρ := rfl
@[simp] theorem aNil_r : aNil ρ = some [] := rfl
@[simp] theorem aCons_r : aCons f r ρ = (f ρ).bind fun d => (r ρ).bind fun ds => some (d :: ds) := rfl
@[simp] theorem eOp_r {F : PyData → PyData → Option PyData} : eOp F f g ρ = (f ρ).bind fun x => (g ρ).bind fun y => F x y := rfl
@[simp] theorem eUn_r {F : PyData → Option PyData} : eUn F f ρ = (f ρ).bind F := rfl
@[simp] theorem eCall_r {F : List PyData → Option PyData} : eCall F r ρ = (r ρ).bind F := rfl
@[simp] theorem eTup_r : eTup r ρ = (r ρ).bind fun ds => if ds.length ≤ sizeLine then some (.tuple ds) else none := rfl
@[simp] theorem eLst_r : eLst r ρ = (r ρ).bind fun ds => if ds.length ≤ sizeLine then some (.list ds) else none := rfl
@[simp] theorem eIf_r {t : SB} : eIf t f g ρ = (t ρ).bind fun k => if k = true then f ρ else g ρ := rfl
@[simp] theorem eAnd_r : eAnd f g ρ = (f ρ).bind fun x => (truth x).bind fun k => if k = true then g ρ else some x := rfl
@[simp] theorem eOr_r : eOr f g ρ = (f ρ).bind fun x => (truth x).bind fun k => if k = true then some x else g ρ := rfl
@[simp] theorem eNot_r : eNot f ρ = (f ρ).bind fun x => (truth x).map fun k => .bool !k := rfl
@[simp] theorem eIs_r {T : String} : eIs T f ρ = (f ρ).bind fun d => (isT T d).map .bool := rfl
@[simp] theorem eChain_r {F F' : PyData → PyData → Option PyData} : eChain F F' f g h ρ = (f ρ).bind fun x => (g ρ).bind fun y => (F x y).bind fun z => match z with
  | .bool true => (h ρ).bind fun w => F' y w
  | .bool false => some (.bool false)
  | _ => none := rfl
@[simp] theorem eSl_r {F : PyData → Option Int → Option Int → Option PyData} {a b : SO} : eSl F f a b ρ = (f ρ).bind fun d => (a ρ).bind fun lo => (b ρ).bind fun hi => F d lo hi := rfl
@[simp] theorem oNo_r : oNo ρ = some none := rfl
@[simp] theorem oSo_r : oSo f ρ = (f ρ).bind asI := rfl
@[simp] theorem asI_r : asI (.int i) = some (some i) := rfl
@[simp] theorem bT_r : bT f ρ = (f ρ).bind asB := rfl
@[simp] theorem bV_r : bV f ρ = (f ρ).bind truth := rfl
@[simp] theorem bYes_r : bYes ρ = some true := rfl
@[simp] theorem asB_r {b : Bool} : asB (.bool b) = some b := rfl
@[simp] theorem truth_b {b : Bool} : truth (.bool b) = some b := rfl
@[simp] theorem truth_l {l : List PyData} : truth (.list l) = some (!l.isEmpty) := rfl
@[simp] theorem truth_t {l : List PyData} : truth (.tuple l) = some (!l.isEmpty) := rfl
@[simp] theorem truth_n : truth .none = some false := rfl
@[simp] theorem truth_i : truth (.int i) = some (i != 0) := rfl
variable {t u : SB}
@[simp] theorem bAnd_r : bAnd t u ρ = (t ρ).bind fun k => if k = true then u ρ else some false := rfl
@[simp] theorem bOr_r : bOr t u ρ = (t ρ).bind fun k => if k = true then some true else u ρ := rfl
@[simp] theorem bNot_r : bNot t ρ = (t ρ).map fun k => !k := rfl
@[simp] theorem oAdd_i : oAdd (.int i) (.int j) = some (.int (i + j)) := rfl
@[simp] theorem oSub_i : oSub (.int i) (.int j) = some (.int (i - j)) := rfl
@[simp] theorem oNeg_i : oNeg (.int i) = some (.int (-i)) := rfl
@[simp] theorem oLt_i : oLt (.int i) (.int j) = some (.bool (decide (i < j))) := rfl
@[simp] theorem oLe_i : oLe (.int i) (.int j) = some (.bool (decide (i ≤ j))) := rfl
@[simp] theorem oGt_i : oGt (.int i) (.int j) = some (.bool (decide (j < i))) := rfl
@[simp] theorem oGe_i : oGe (.int i) (.int j) = some (.bool (decide (j ≤ i))) := rfl
@[simp] theorem oMod_i (h : 0 < j) : oMod (.int i) (.int j) = some (.int (i % j)) := if_pos h
@[simp] theorem oFdiv_i (h : 0 < j) (h2 : j < 18446744073709551616) : oFdiv (.int i) (.int j) = some (.int (i / j)) := if_pos ⟨h, h2⟩
theorem oMul_l (h1 : -18446744073709551616 < i) (h2 : i < 18446744073709551616) : oMulS (.int i) (.int j) = some (.int (i * j)) := if_pos (show CMul i j from .inl ⟨h1, h2⟩)
theorem oMul_r (h1 : -18446744073709551616 < j) (h2 : j < 18446744073709551616) : oMulS (.int i) (.int j) = some (.int (i * j)) := if_pos (show CMul i j from .inr ⟨h1, h2⟩)
@[simp] theorem oPow18 : oPow (.int 10) (.int 18) = some (.int 1000000000000000000) := by
  show (if CPow 10 18 then some (PyData.int (10 ^ (18 : Int).toNat)) else none) = _
  rw [if_pos (by decide)]; rfl
@[simp] theorem oPow16 : oPow (.int 10) (.int 16) = some (.int 10000000000000000) := by
  show (if CPow 10 16 then some (PyData.int (10 ^ (16 : Int).toNat)) else none) = _
  rw [if_pos (by decide)]; rfl
@[simp] theorem oPow15 : oPow (.int 10) (.int 15) = some (.int 1000000000000000) := by
  show (if CPow 10 15 then some (PyData.int (10 ^ (15 : Int).toNat)) else none) = _
  rw [if_pos (by decide)]; rfl
@[simp] theorem oPow14 : oPow (.int 10) (.int 14) = some (.int 100000000000000) := by
  show (if CPow 10 14 then some (PyData.int (10 ^ (14 : Int).toNat)) else none) = _
  rw [if_pos (by decide)]; rfl
@[simp] theorem oPow13 : oPow (.int 10) (.int 13) = some (.int 10000000000000) := by
  show (if CPow 10 13 then some (PyData.int (10 ^ (13 : Int).toNat)) else none) = _
  rw [if_pos (by decide)]; rfl
@[simp] theorem oPow12 : oPow (.int 10) (.int 12) = some (.int 1000000000000) := by
  show (if CPow 10 12 then some (PyData.int (10 ^ (12 : Int).toNat)) else none) = _
  rw [if_pos (by decide)]; rfl
@[simp] theorem oPow9 : oPow (.int 10) (.int 9) = some (.int 1000000000) := by
  show (if CPow 10 9 then some (PyData.int (10 ^ (9 : Int).toNat)) else none) = _
  rw [if_pos (by decide)]; rfl
@[simp] theorem oPow8 : oPow (.int 10) (.int 8) = some (.int 100000000) := by
  show (if CPow 10 8 then some (PyData.int (10 ^ (8 : Int).toNat)) else none) = _
  rw [if_pos (by decide)]; rfl
@[simp] theorem oPow7 : oPow (.int 10) (.int 7) = some (.int 10000000) := by
  show (if CPow 10 7 then some (PyData.int (10 ^ (7 : Int).toNat)) else none) = _
  rw [if_pos (by decide)]; rfl
@[simp] theorem oPow6 : oPow (.int 10) (.int 6) = some (.int 1000000) := by
  show (if CPow 10 6 then some (PyData.int (10 ^ (6 : Int).toNat)) else none) = _
  rw [if_pos (by decide)]; rfl
@[simp] theorem cInt_i : cInt [.int i] = some (.int i) := rfl
@[simp] theorem cInt_b {b : Bool} : cInt [.bool b] = some (.int (if b then 1 else 0)) := rfl
@[simp] theorem cAbs_i : cAbs [.int i] = some (.int (if i < 0 then -i else i)) := rfl
@[simp] theorem cMax2_i : cMax2 [.int i, .int j] = some (.int (max i j)) := by
  show some (PyData.int (if j > i then j else i)) = _
  congr 2; split <;> omega
@[simp] theorem cMin2_i : cMin2 [.int i, .int j] = some (.int (min i j)) := by
  show some (PyData.int (if j < i then j else i)) = _
  congr 2; split <;> omega
@[simp] theorem cLen_l {l : List PyData} : cLen [.list l] = some (.int (l.length : Nat)) := rfl
@[simp] theorem cLen_t {l : List PyData} : cLen [.tuple l] = some (.int (l.length : Nat)) := rfl
@[simp] theorem cList_l {l : List PyData} : cList [.list l] = some (.list l) := rfl
@[simp] theorem cList_t {l : List PyData} : cList [.tuple l] = some (.list l) := rfl
@[simp] theorem cSum_i {l : List Int} : cSum [.list (l.map .int)] = some (.int l.sum) := by
  show (intsOf (l.map .int)).map _ = _
  rw [intsOf_map]; rfl
@[simp] theorem isT_int_i : isT "int" (.int i) = some true := rfl
@[simp] theorem isT_bool_i : isT "bool" (.int i) = some false := rfl
@[simp] theorem isT_bool_b {b : Bool} : isT "bool" (.bool b) = some true := rfl
@[simp] theorem isT_int_b {b : Bool} : isT "int" (.bool b) = some true := rfl
@[simp] theorem isT_tuple_t {l : List PyData} : isT "tuple" (.tuple l) = some true := rfl
@[simp] theorem isT_list_l {l : List PyData} : isT "list" (.list l) = some true := rfl
@[simp] theorem oEq_i : oEq (.int i) (.int j) = some (.bool (decide (i = j))) := by
  show (if SeqAt.shaped (.int i) = true ∧ SeqAt.shaped (.int j) = true then some (PyData.bool (PyData.eqv (.int i) (.int j))) else none) = _
  rw [if_pos ⟨rfl, rfl⟩]
  show some (PyData.bool (i == j)) = _
  rw [Bool.beq_eq_decide_eq]
@[simp] theorem oNe_i : oNe (.int i) (.int j) = some (.bool (!decide (i = j))) := by
  show (if SeqAt.shaped (.int i) = true ∧ SeqAt.shaped (.int j) = true then some (PyData.bool (!PyData.eqv (.int i) (.int j))) else none) = _
  rw [if_pos ⟨rfl, rfl⟩]
  show some (PyData.bool (!(i == j))) = _
  rw [Bool.beq_eq_decide_eq]
@[simp] theorem oEq_b {a b : Bool} : oEq (.bool a) (.bool b) = some (.bool (a == b)) := if_pos ⟨rfl, rfl⟩
@[simp] theorem oNe_b {a b : Bool} : oNe (.bool a) (.bool b) = some (.bool (!(a == b))) := if_pos ⟨rfl, rfl⟩
@[simp] theorem oIsN_n : oIsN .none .none = some (.bool true) := rfl
@[simp] theorem oNotN_n : oNotN .none .none = some (.bool false) := rfl
@[simp] theorem oIsN_i : oIsN (.int i) .none = some (.bool false) := rfl
@[simp] theorem oNotN_i : oNotN (.int i) .none = some (.bool true) := rfl
@[simp] theorem oIsB_b {a b : Bool} : oIsB (.bool a) (.bool b) = some (.bool (decide (a = b))) := rfl
@[simp] theorem oNotB_b {a b : Bool} : oNotB (.bool a) (.bool b) = some (.bool (!decide (a = b))) := rfl
/-- an item of data, by a place -/
theorem atI_pos {α : Type} {l : List α} (h0 : 0 ≤ i) : atI l i = l[i.toNat]? := by
  unfold L2.atI ixN
  rw [if_pos h0]
  by_cases h : i < l.length
  · rw [if_pos h]; rfl
  · rw [if_neg h]
    show none = _
    rw [List.getElem?_eq_none (by omega)]
theorem atI_neg {α : Type} {l : List α} (h0 : i < 0) (h1 : -(l.length : Int) ≤ i) : atI l i = l[(i + l.length).toNat]? := by
  unfold L2.atI ixN
  rw [if_neg (by omega), if_pos h1]; rfl
@[simp] theorem oIx_l {l : List PyData} : oIx (.list l) (.int i) = atI l i := rfl
@[simp] theorem oIx_t {l : List PyData} : oIx (.tuple l) (.int i) = atI l i := rfl
@[simp] theorem atI_0 {α : Type} {a : α} {l : List α} : atI (a :: l) 0 = some a := by rw [atI_pos (by decide)]; rfl
@[simp] theorem atI_1 {α : Type} {a b : α} {l : List α} : atI (a :: b :: l) 1 = some b := by rw [atI_pos (by decide)]; rfl
@[simp] theorem atI_2 {α : Type} {a b c : α} {l : List α} : atI (a :: b :: c :: l) 2 = some c := by rw [atI_pos (by decide)]; rfl
@[simp] theorem atI_3 {α : Type} {a b c e : α} {l : List α} : atI (a :: b :: c :: e :: l) 3 = some e := by rw [atI_pos (by decide)]; rfl
theorem atI_lt {α : Type} {l : List α} (h0 : 0 ≤ i) (h1 : i < l.length) : atI l i = some (l[i.toNat]'(by omega)) := by
  rw [atI_pos h0]; exact List.getElem?_eq_getElem (by omega)
theorem atI_ex {α : Type} {l : List α} (h0 : 0 ≤ i) (h1 : i < l.length) : ∃ v, v ∈ l ∧ atI l i = some v := ⟨_, List.getElem_mem _, atI_lt h0 h1⟩
theorem pickI (l : List Int) {i : Int} (h0 : 0 ≤ i) (h1 : i < l.length) : ∃ v, v ∈ l ∧ atI (l.map PyData.int) i = some (.int v) := by
  obtain ⟨v, h2, h3⟩ := atI_ex (l := l.map PyData.int) h0 (by rw [List.length_map]; exact h1)
  obtain ⟨w, h4, rfl⟩ := List.mem_map.mp h2
  exact ⟨w, h4, h3⟩
end
/-! ### statements -/
section
variable {ρ ρ' : Rho} {f g : SS} {e : SE} {t : SB} {k : Nat} {d : PyData} {o : Out}
theorem seq_nx (h : f ρ = some (.nx ρ')) : sSeqn f g ρ = g ρ' := by unfold sSeqn; rw [h]; rfl
theorem seq_rt (h : f ρ = some (.rt d)) : sSeqn f g ρ = some (.rt d) := by unfold sSeqn; rw [h]; rfl
theorem seq_ct (h : f ρ = some (.ct ρ')) : sSeqn f g ρ = some (.ct ρ') := by unfold sSeqn; rw [h]; rfl
theorem seq_bk (h : f ρ = some (.bk ρ')) : sSeqn f g ρ = some (.bk ρ') := by unfold sSeqn; rw [h]; rfl
@[simp] theorem sSeqn_r : sSeqn f g ρ = (f ρ).bind fun o => match o with | .nx ρ' => g ρ' | o => some o := rfl
@[simp] theorem sNext_r : sNext ρ = some (.nx ρ) := rfl
@[simp] theorem sBrk_r : sBrk ρ = some (.bk ρ) := rfl
@[simp] theorem sCnt_r : sCnt ρ = some (.ct ρ) := rfl
@[simp] theorem sRetN_r : sRetN ρ = some (.rt .none) := rfl
@[simp] theorem sExpr_r : sExpr e ρ = (e ρ).bind fun _ => some (.nx ρ) := rfl
@[simp] theorem sRet_r : sRet e ρ = (e ρ).bind fun d => some (.rt d) := rfl
@[simp] theorem sRetOwn_r : sRetOwn k ρ = (match getS ρ k with | some (.own d) => some (.rt d) | _ => none) := by rw [getS_eq]; rfl
@[simp] theorem sIf_r : sIf t f g ρ = (t ρ).bind fun k => if k = true then f ρ else g ρ := rfl
@[simp] theorem sSet_r : sSet k e ρ = (e ρ).bind fun d => if k < ρ.length then some (.nx (ρ.set k (.val d))) else none := rfl
@[simp] theorem sOwn_r : sOwn k e ρ = (e ρ).bind fun d => if k < ρ.length then some (.nx (ρ.set k (.own d))) else none := rfl
@[simp] theorem sAsg_r {g : SG} : sAsg e g ρ = (e ρ).bind fun d => (g d ρ).bind fun ρ' => some (.nx ρ') := rfl
@[simp] theorem gV_r : gV k d ρ = if k < ρ.length then some (ρ.set k (.val d)) else none := rfl
@[simp] theorem gT_r {n : Nat} {r : SGs} {ds : List PyData} : gT n r (.tuple ds) ρ = if ds.length = n then r ds ρ else none := rfl
@[simp] theorem gsNil_r : gsNil [] ρ = some ρ := rfl
@[simp] theorem gsCons_r {g : SG} {r : SGs} {ds : List PyData} : gsCons g r (d :: ds) ρ = (g d ρ).bind fun ρ' => r ds ρ' := rfl
@[simp] theorem sFz_r : sFz k f ρ = (match getS ρ k with | some (.own d) => f (ρ.set k (.val d)) | some (.val _) => f ρ | _ => none) := by rw [getS_eq]; rfl
@[simp] theorem sAug_r {F : PyData → PyData → Option PyData} : sAug k F e ρ = (eV k ρ).bind fun x => (e ρ).bind fun y => (F x y).bind fun d => some (.nx (ρ.set k (.val d))) := rfl
@[simp] theorem addI_r {i j : Int} : addI (.int i) (.int j) = some (.int (i + j)) := rfl
@[simp] theorem subI_r {i j : Int} : subI (.int i) (.int j) = some (.int (i - j)) := rfl
@[simp] theorem sFor_r {fi : SI} {g : SG} {b : SS} : sFor fi g b ρ = (fi ρ).bind fun ds => forGo g b ds ρ := rfl
@[simp] theorem sSeq_r : sSeq e ρ = (e ρ).bind itemsOf := rfl
@[simp] theorem sArgs_r {F : List PyData → Option (List PyData)} {r : SA} : sArgs F r ρ = (r ρ).bind F := rfl
@[simp] theorem itemsOf_l {l : List PyData} : itemsOf (.list l) = some l := rfl
@[simp] theorem itemsOf_t {l : List PyData} : itemsOf (.tuple l) = some l := rfl
@[simp] theorem sMut_r {F : List PyData → List PyData → Option PyData} {r : SA} : sMut F k r ρ = (match getS ρ k with | some (.own (.list l)) => (r ρ).bind fun ds => (F l ds).bind fun d => some (.nx (ρ.set k (.own d))) | _ => none) := by rw [getS_eq]; rfl
@[simp] theorem fApp_r {l : List PyData} : fApp l [d] = if l.length < sizeLine then some (.list (l ++ [d])) else none := rfl
@[simp] theorem slotsOf_nil : slotsOf [] [] = [] := rfl
@[simp] theorem slotsOf_val {ms : List Md} {ds : List PyData} : slotsOf (.val :: ms) (d :: ds) = .val d :: slotsOf ms ds := rfl
@[simp] theorem slotsOf_bor {ms : List Md} {ds : List PyData} : slotsOf (.bor :: ms) (d :: ds) = .bor d :: slotsOf ms ds := rfl
@[simp] theorem slotsOf_scr {ms : List Md} {ds : List PyData} : slotsOf (.scr :: ms) (d :: ds) = .scr d :: slotsOf ms ds := rfl
/-- a def's value: from how its body ends -/
theorem runF_rt {n : Nat} {rm : Md} {ms : List Md} {ds : List PyData} (hl : ds.length = ms.length) (h : f (slotsOf ms ds ++ List.replicate (n - ds.length) .un) = some (.rt d)) : runF n rm ms f ds = some d := by
  unfold runF
  rw [if_pos hl, h]
  cases rm <;> rfl
theorem size_le {n : Nat} (h : n ≤ 16777216) : n ≤ sizeLine := by rw [sizeLine_eq]; exact h
/-! ### loops -/
/-- a loop that runs to its end: an invariant by the turn -/
theorem for_all {g : SG} {b : SS} {ds : List PyData} (I : Nat → Rho → Prop) (h0 : I 0 ρ)
    (turn : ∀ i d ρ, ds[i]? = some d → I i ρ → ∃ ρ1 ρ', g d ρ = some ρ1 ∧ (b ρ1 = some (.nx ρ') ∨ b ρ1 = some (.ct ρ')) ∧ I (i + 1) ρ') : ∃ ρ', forGo g b ds ρ = some (.nx ρ') ∧ I ds.length ρ' := by
  have key : ∀ (rest : List PyData) (i : Nat) (ρ : Rho), i ≤ ds.length → ds.drop i = rest → I i ρ → ∃ ρ', forGo g b rest ρ = some (.nx ρ') ∧ I ds.length ρ' := by
    intro rest
    induction rest with
    | nil =>
      intro i ρ hle hd hi
      have : ds.length ≤ i := List.drop_eq_nil_iff.mp hd
      have e : i = ds.length := by omega
      exact ⟨ρ, rfl, by rw [← e]; exact hi⟩
    | cons d r ih =>
      intro i ρ hle hd hi
      have hlt : i < ds.length := by
        have := congrArg List.length hd
        rw [List.length_drop, List.length_cons] at this
        omega
      have h1 : ds[i]? = some d := by
        rw [← List.head?_drop, hd]; rfl
      obtain ⟨ρ1, ρ', e1, e2, e3⟩ := turn i d ρ h1 hi
      have h2 : ds.drop (i + 1) = r := by rw [← List.tail_drop, hd]; rfl
      obtain ⟨ρ2, e4, e5⟩ := ih (i + 1) ρ' hlt h2 e3
      refine ⟨ρ2, ?_, e5⟩
      unfold forGo
      rw [e1]
      rcases e2 with e2 | e2
      · show (b ρ1).bind _ = _
        rw [e2]; exact e4
      · show (b ρ1).bind _ = _
        rw [e2]; exact e4
  exact key ds 0 ρ (Nat.zero_le _) rfl h0
end
/-! ### == of plain data (no bools, no dicts) -/
mutual
def clean : Nat → PyData → Bool
  | _, .none => true
  | _, .int _ => true
  | _, .str x => PyData.strOk x
  | n + 1, .list l => cleanA n l
  | n + 1, .tuple l => cleanA n l
  | _, _ => false
def cleanA : Nat → List PyData → Bool
  | _, [] => true
  | n, d :: r => clean n d && cleanA n r
end
mutual
theorem clean_lay : ∀ (n : Nat) (d : PyData), clean n d = true → d.canLay0 = true ∧ d.depth ≤ n
  | _, .none, _ => ⟨by simp [PyData.canLay0], by simp [PyData.depth]⟩
  | _, .int _, _ => ⟨by simp [PyData.canLay0], by simp [PyData.depth]⟩
  | _, .bool _, h => by simp [clean] at h
  | _, .str x, h => ⟨by simpa [PyData.canLay0, clean] using h, by simp [PyData.depth]⟩
  | 0, .list l, h => by simp [clean] at h
  | 0, .tuple l, h => by simp [clean] at h
  | n + 1, .list l, h => by
    obtain ⟨h1, h2⟩ := cleanA_lay n l (by simpa [clean] using h)
    exact ⟨by simpa [PyData.canLay0] using h1, by simpa [PyData.depth] using h2⟩
  | n + 1, .tuple l, h => by
    obtain ⟨h1, h2⟩ := cleanA_lay n l (by simpa [clean] using h)
    exact ⟨by simpa [PyData.canLay0] using h1, by simpa [PyData.depth] using h2⟩
  | _, .dict _, h => by simp [clean] at h
theorem cleanA_lay : ∀ (n : Nat) (l : List PyData), cleanA n l = true → PyData.canLayAll0 l = true ∧ PyData.depthAll l ≤ n
  | _, [], _ => ⟨by simp [PyData.canLayAll0], by simp [PyData.depthAll]⟩
  | n, d :: r, h => by
    have h' : clean n d = true ∧ cleanA n r = true := by simpa [cleanA] using h
    obtain ⟨a1, a2⟩ := clean_lay n d h'.1
    obtain ⟨b1, b2⟩ := cleanA_lay n r h'.2
    exact ⟨by simp [PyData.canLayAll0, a1, b1], by simp only [PyData.depthAll]; omega⟩
end
mutual
theorem eqv_iff : ∀ (n : Nat) (d e : PyData), clean n d = true → clean n e = true → (PyData.eqv d e = true ↔ d = e)
  | _, .none, .none, _, _ => by simp [PyData.eqv]
  | _, .none, .int _, _, _ => by simp [PyData.eqv]
  | _, .none, .str _, _, _ => by simp [PyData.eqv]
  | _, .none, .list _, _, _ => by simp [PyData.eqv]
  | _, .none, .tuple _, _, _ => by simp [PyData.eqv]
  | _, .int _, .none, _, _ => by simp [PyData.eqv]
  | _, .int _, .int _, _, _ => by simp [PyData.eqv]
  | _, .int _, .str _, _, _ => by simp [PyData.eqv]
  | _, .int _, .list _, _, _ => by simp [PyData.eqv]
  | _, .int _, .tuple _, _, _ => by simp [PyData.eqv]
  | _, .str _, .none, _, _ => by simp [PyData.eqv]
  | _, .str _, .int _, _, _ => by simp [PyData.eqv]
  | _, .str _, .str _, _, _ => by simp [PyData.eqv]
  | _, .str _, .list _, _, _ => by simp [PyData.eqv]
  | _, .str _, .tuple _, _, _ => by simp [PyData.eqv]
  | _, .list _, .none, _, _ => by simp [PyData.eqv]
  | _, .list _, .int _, _, _ => by simp [PyData.eqv]
  | _, .list _, .str _, _, _ => by simp [PyData.eqv]
  | 0, .list _, .list _, h, _ => by simp [clean] at h
  | n + 1, .list l, .list k, h, h2 => by
    have := eqvA_iff n l k (by simpa [clean] using h) (by simpa [clean] using h2)
    simp only [PyData.eqv, this, PyData.list.injEq]
  | _, .list _, .tuple _, _, _ => by simp [PyData.eqv]
  | _, .tuple _, .none, _, _ => by simp [PyData.eqv]
  | _, .tuple _, .int _, _, _ => by simp [PyData.eqv]
  | _, .tuple _, .str _, _, _ => by simp [PyData.eqv]
  | _, .tuple _, .list _, _, _ => by simp [PyData.eqv]
  | 0, .tuple _, .tuple _, h, _ => by simp [clean] at h
  | n + 1, .tuple l, .tuple k, h, h2 => by
    have := eqvA_iff n l k (by simpa [clean] using h) (by simpa [clean] using h2)
    simp only [PyData.eqv, this, PyData.tuple.injEq]
  | _, .bool _, _, h, _ => by simp [clean] at h
  | _, .dict _, _, h, _ => by simp [clean] at h
  | _, _, .bool _, _, h => by simp [clean] at h
  | _, _, .dict _, _, h => by simp [clean] at h
theorem eqvA_iff : ∀ (n : Nat) (l k : List PyData), cleanA n l = true → cleanA n k = true → (PyData.eqvAll l k = true ↔ l = k)
  | _, [], [], _, _ => by simp [PyData.eqvAll]
  | _, [], _ :: _, _, _ => by simp [PyData.eqvAll]
  | _, _ :: _, [], _, _ => by simp [PyData.eqvAll]
  | n, d :: l, e :: k, h, h2 => by
    have h' : clean n d = true ∧ cleanA n l = true := by simpa [cleanA] using h
    have h2' : clean n e = true ∧ cleanA n k = true := by simpa [cleanA] using h2
    have a := eqv_iff n d e h'.1 h2'.1
    have b := eqvA_iff n l k h'.2 h2'.2
    simp only [PyData.eqvAll, Bool.and_eq_true, a, b, List.cons.injEq]
end
theorem clean_shaped {n : Nat} {d : PyData} (hn : n ≤ 64) (h : clean n d = true) : SeqAt.shaped d = true := by
  obtain ⟨h1, h2⟩ := clean_lay n d h
  unfold SeqAt.shaped
  rw [h1, Bool.true_and]
  exact decide_eq_true (by omega)
theorem oEq_c {d e : PyData} (h1 : clean 9 d = true) (h2 : clean 9 e = true) : oEq d e = some (.bool (PyData.eqv d e)) := if_pos ⟨clean_shaped (by decide) h1, clean_shaped (by decide) h2⟩
theorem oNe_c {d e : PyData} (h1 : clean 9 d = true) (h2 : clean 9 e = true) : oNe d e = some (.bool (!PyData.eqv d e)) := if_pos ⟨clean_shaped (by decide) h1, clean_shaped (by decide) h2⟩
theorem oEq_self {d : PyData} (h1 : clean 9 d = true) : oEq d d = some (.bool true) := by rw [oEq_c h1 h1, (eqv_iff 9 d d h1 h1).mpr rfl]
theorem oNe_self {d : PyData} (h1 : clean 9 d = true) : oNe d d = some (.bool false) := by rw [oNe_c h1 h1, (eqv_iff 9 d d h1 h1).mpr rfl]; rfl
theorem eqv_dec {d e : PyData} (h1 : clean 9 d = true) (h2 : clean 9 e = true) (c : Prop) [Decidable c] (h : d = e ↔ c) : PyData.eqv d e = decide c := by
  have := eqv_iff 9 d e h1 h2
  by_cases q : c
  · rw [decide_eq_true q]; exact this.mpr (h.mpr q)
  · rw [decide_eq_false q]
    cases z : PyData.eqv d e with
    | false => rfl
    | true => exact absurd (h.mp (this.mp z)) q
/-- a rectangle -/
abbrev rD (x y w h : Int) : PyData := .tuple [.int x, .int y, .int w, .int h]
theorem clean_r {n : Nat} (x y w h : Int) : clean (n + 1) (rD x y w h) = true := by simp [clean, cleanA]
theorem oEq_r {x y w h x' y' w' h' : Int} : oEq (rD x y w h) (rD x' y' w' h') = some (.bool (decide (x = x' ∧ y = y' ∧ w = w' ∧ h = h'))) := by
  rw [oEq_c (clean_r ..) (clean_r ..), eqv_dec (clean_r ..) (clean_r ..) (x = x' ∧ y = y' ∧ w = w' ∧ h = h') (by simp)]
theorem oNe_r {x y w h x' y' w' h' : Int} : oNe (rD x y w h) (rD x' y' w' h') = some (.bool (!decide (x = x' ∧ y = y' ∧ w = w' ∧ h = h'))) := by
  rw [oNe_c (clean_r ..) (clean_r ..), eqv_dec (clean_r ..) (clean_r ..) (x = x' ∧ y = y' ∧ w = w' ∧ h = h') (by simp)]
/-! ### comprehensions over encoded lists -/
section
variable {ρ : Rho} {g : SG} {t : SB} {e : SE} {α : Type}
@[simp] theorem eLc_r {fi : SI} {vs : List Nat} : eLc fi g t e vs ρ = (fi ρ).bind fun ds => (lcGo g t e (wipeR ρ vs) ds).bind fun ys => if ys.length ≤ sizeLine then some (.list ys) else none := rfl
@[simp] theorem wipeR_nil : wipeR ρ [] = ρ := rfl
@[simp] theorem wipeR_cons {v : Nat} {vs : List Nat} : wipeR ρ (v :: vs) = (wipeR ρ vs).set v .un := rfl
theorem lcGo_filter (enc f : α → PyData) (p : α → Bool) : ∀ (xs : List α), (∀ a ∈ xs, ∃ ρ1, g (enc a) ρ = some ρ1 ∧ t ρ1 = some (p a) ∧ (p a = true → e ρ1 = some (f a))) → lcGo g t e ρ (xs.map enc) = some ((xs.filter p).map f)
  | [], _ => rfl
  | a :: r, h => by
    obtain ⟨ρ1, h1, h2, h3⟩ := h a List.mem_cons_self
    have ih := lcGo_filter enc f p r fun b hb => h b (List.mem_cons_of_mem _ hb)
    show (g (enc a) ρ).bind _ = _
    rw [h1]
    show (t ρ1).bind _ = _
    rw [h2]
    cases hp : p a with
    | true =>
      show (e ρ1).bind _ = _
      rw [h3 hp]
      show (lcGo g t e ρ (r.map enc)).bind _ = _
      rw [ih, List.filter_cons_of_pos hp]; rfl
    | false =>
      show lcGo g t e ρ (r.map enc) = _
      rw [ih, List.filter_cons_of_neg (by rw [hp]; exact Bool.false_ne_true)]
theorem lcGo_map (enc f : α → PyData) (xs : List α) (h : ∀ a ∈ xs, ∃ ρ1, g (enc a) ρ = some ρ1 ∧ t ρ1 = some true ∧ e ρ1 = some (f a)) : lcGo g t e ρ (xs.map enc) = some (xs.map f) := by
  have := lcGo_filter (ρ := ρ) (g := g) (t := t) (e := e) enc f (fun _ => true) xs fun a ha => by
    obtain ⟨ρ1, h1, h2, h3⟩ := h a ha
    exact ⟨ρ1, h1, h2, fun _ => h3⟩
  rw [this]
  congr 2
  exact List.filter_eq_self.mpr fun _ _ => rfl
/-- a part of a list -/
def cutG (xs : List α) (lo hi : Option Int) : List α := (xs.drop (HT.sIx xs.length 0 lo)).take (HT.sIx xs.length xs.length hi - HT.sIx xs.length 0 lo)
theorem cutD_map (f : α → PyData) (xs : List α) (lo hi : Option Int) : cutD (xs.map f) lo hi = (cutG xs lo hi).map f := by
  unfold cutD cutG
  rw [List.length_map, List.map_take, List.map_drop]
theorem cutG_len (xs : List α) {i j : Int} (h0 : 0 ≤ i) (h1 : i ≤ j) : (cutG xs (some i) (some j)).length ≤ (j - i).toNat := by
  unfold cutG
  obtain ⟨a, rfl⟩ := Int.eq_ofNat_of_zero_le h0
  obtain ⟨b, rfl⟩ := Int.eq_ofNat_of_zero_le (Int.le_trans h0 h1)
  rw [HT.sIx_nat, HT.sIx_nat, List.length_take, List.length_drop]
  omega
@[simp] theorem oSlL_l {l : List PyData} {lo hi : Option Int} : oSlL (.list l) lo hi = some (.list (cutD l lo hi)) := rfl
@[simp] theorem oSl_l {l : List PyData} {lo hi : Option Int} : oSl (.list l) lo hi = some (.list (cutD l lo hi)) := rfl
@[simp] theorem rng1_r {j : Int} (h1 : -4611686018427387904 ≤ j) (h2 : j < 4611686018427387904) : rng1 [.int j] = some (rangeD 0 j.toNat) := if_pos ⟨by omega, by omega⟩
@[simp] theorem rng2_r {i j : Int} (h1 : -4611686018427387904 ≤ i) (h2 : i < 4611686018427387904) (h3 : -4611686018427387904 ≤ j) (h4 : j < 4611686018427387904) : rng2 [.int i, .int j] = some (rangeD i (j - i).toNat) := if_pos ⟨by omega, by omega, by omega, by omega⟩
theorem rangeD_map (lo : Int) (n : Nat) : rangeD lo n = ((List.range n).map fun i : Nat => lo + (i : Int)).map .int := by
  unfold rangeD; rw [List.map_map]; rfl
end
/-- rectangles, encoded -/
abbrev R4 := Int × Int × Int × Int
def encR (r : R4) : PyData := rD r.1 r.2.1 r.2.2.1 r.2.2.2
theorem cleanA_map {α : Type} {n : Nat} {f : α → PyData} (h : ∀ a, clean n (f a) = true) (l : List α) : cleanA n (l.map f) = true := by
  induction l with
  | nil => simp [cleanA]
  | cons a r ih => simp [cleanA, h, ih]
theorem clean_rs (l : List R4) : clean 9 (.list (l.map encR)) = true := by
  show cleanA 8 _ = true
  exact cleanA_map (fun a => clean_r ..) l
theorem encR_inj {a b : R4} (h : encR a = encR b) : a = b := by
  simp [encR] at h
  ext <;> simp [h]
theorem map_inj {α : Type} {f : α → PyData} (h : ∀ {a b}, f a = f b → a = b) : ∀ {l k : List α}, l.map f = k.map f → l = k
  | [], [], _ => rfl
  | [], _ :: _, e => by simp at e
  | _ :: _, [], e => by simp at e
  | a :: l, b :: k, e => by
    simp only [List.map_cons, List.cons.injEq] at e
    rw [h e.1, map_inj h e.2]
theorem oEq_rs (l k : List R4) : oEq (.list (l.map encR)) (.list (k.map encR)) = some (.bool (decide (l = k))) := by
  rw [oEq_c (clean_rs l) (clean_rs k), eqv_dec (clean_rs l) (clean_rs k) (l = k)]
  simp only [PyData.list.injEq]
  exact ⟨fun h => map_inj encR_inj h, fun h => by rw [h]⟩
theorem oNe_rs (l k : List R4) : oNe (.list (l.map encR)) (.list (k.map encR)) = some (.bool (!decide (l = k))) := by
  rw [oNe_c (clean_rs l) (clean_rs k), eqv_dec (clean_rs l) (clean_rs k) (l = k)]
  simp only [PyData.list.injEq]
  exact ⟨fun h => map_inj encR_inj h, fun h => by rw [h]⟩
end DV

namespace DV
open PySem L2 PySem.Spec PyProof.Rows
section
variable {X : Cx} {K : PySem.W.Frag} {a b e : Expr} {f g fe : SE} {rm : Md} {x : Str} {pos p1 apos cpos : Pos}
/-! ### in -/
theorem op_inA (hu : X.A.units + 65 < cLine) : OpR X (compareOp .In) (fun x y H Q => (∃ (c : Nat) (z : Str), x = .str ⟨#[c]⟩ ∧ y = .str z ∧ Q (.bl (decide (c ∈ z.cps.toList))) H) ∨ rInD X.K x y H Q) := OpR.or op_in_sign (op_inD hu)
theorem op_notInA (hu : X.A.units + 65 < cLine) : OpR X (compareOp .NotIn) (fun x y H Q => (∃ (c : Nat) (z : Str), x = .str ⟨#[c]⟩ ∧ y = .str z ∧ Q (.bl (!decide (c ∈ z.cps.toList))) H) ∨ rNotInD X.K x y H Q) := OpR.or op_notIn_sign (op_notInD hu)
theorem units65 {k : Nat} {A : Around} (r : Room k A) : A.units + 65 < cLine := by have := r.un; omega
def oIn (a b : PyData) : Option PyData := match b with
  | .list ds => if SeqAt.shaped a = true ∧ SeqAt.shaped (.list ds) = true then some (.bool (ds.any fun z => PyData.eqv z a)) else none
  | b => oInS a b
def oNotIn (a b : PyData) : Option PyData := match b with
  | .list ds => if SeqAt.shaped a = true ∧ SeqAt.shaped (.list ds) = true then some (.bool (!ds.any fun z => PyData.eqv z a)) else none
  | b => oNotInS a b
theorem opf_in {X : Cx} : OpF X.K .val (fun x y H Q => (∃ (c : Nat) (z : Str), x = .str ⟨#[c]⟩ ∧ y = .str z ∧ Q (.bl (decide (c ∈ z.cps.toList))) H) ∨ rInD X.K x y H Q) oIn := fun G H d1 d2 d x y Q e r1 r2 h q => by
  unfold oIn at h
  split at h
  · obtain ⟨⟨c1, c2⟩, rfl⟩ := if_some h
    exact .inr ⟨d1, _, r1.dp e (SeqAt.canLay_of_shaped c1), r2.dp e (SeqAt.canLay_of_shaped c2), c1, c2, q G H _ (Gx.refl e) fun _ => .bl _⟩
  · exact .inl (opf_inS G H d1 d2 d x y Q e r1 r2 h q)
theorem opf_notIn {X : Cx} : OpF X.K .val (fun x y H Q => (∃ (c : Nat) (z : Str), x = .str ⟨#[c]⟩ ∧ y = .str z ∧ Q (.bl (!decide (c ∈ z.cps.toList))) H) ∨ rNotInD X.K x y H Q) oNotIn := fun G H d1 d2 d x y Q e r1 r2 h q => by
  unfold oNotIn at h
  split at h
  · obtain ⟨⟨c1, c2⟩, rfl⟩ := if_some h
    exact .inr ⟨d1, _, r1.dp e (SeqAt.canLay_of_shaped c1), r2.dp e (SeqAt.canLay_of_shaped c2), c1, c2, q G H _ (Gx.refl e) fun _ => .bl _⟩
  · exact .inl (opf_notInS G H d1 d2 d x y Q e r1 r2 h q)
/-! ### x[i] += v of an own list -/
def rGetL : V → V → Hp → VK → Prop := fun o i H Q => ∃ p xs k v, o = .ref p ∧ i = .int k ∧ H p = some (.lst xs) ∧ atI xs k = some v ∧ Q v H
theorem get_list : PGet X rGetL := by
  intro pins s σ H x y v u Q I rx ry h
  obtain ⟨p, xs, i, z, rfl, rfl, hq, he, q⟩ := h
  cases rx
  obtain ⟨t, rfl⟩ := ry
  obtain ⟨its, r, pl, hz⟩ := I.list (.inl (.inl hq))
  obtain ⟨j, h1, h2, h3, h4, h5⟩ := atI_get he
  obtain ⟨w, ew, rw'⟩ := r.get h2
  have hl := r.length
  have hn := line63
  have fin : EP X pins σ Q w s := ⟨z, H, I, rw', q⟩
  by_cases h0 : 0 ≤ i
  · have hj : i.toNat = j := by
      rw [seqIndex_of h0 h5] at h1
      exact Option.some.inj h1
    exact wpAny_getItem_list pl.isList h0 (by omega) (by rw [hj]; simpa using ew) fin
  · have hj : (i + (its.toArray.size : Int)).toNat = j := by
      rw [seqIndex_neg (by omega) h4] at h1
      rw [List.size_toArray, ← hl]
      exact Option.some.inj h1
    exact wpAny_getItem_list_neg pl.isList (by omega) (by rw [List.size_toArray] <;> omega) (by omega) (by rw [hj]; simpa using ew) fin
def sPutOp (i : Nat) (F : Int → Int → Int) (fi fv : SE) : SS := fun ρ => match ρ[i]? with
  | some (.own (.list l)) => (fi ρ).bind fun k => match k with
    | .int k => (atI l k).bind fun x => match x with
      | .int x => (fv ρ).bind fun y => match y with
        | .int y => (ixN l.length k).map fun j => .nx (ρ.set i (.own (.list (l.set j (.int (F x y))))))
        | _ => none
      | _ => none
    | _ => none
  | _ => none
theorem atI_RepA {K : PySem.W.Frag} {G : Hp} {ds : List PyData} {vs : List V} (r : RepA K G ds vs) {k : Int} {d : PyData} (h : atI ds k = some d) : ∃ v, atI vs k = some v ∧ Rep K G d v := by
  unfold atI at h ⊢
  rw [← r.len]
  cases e : ixN ds.length k with
  | none => rw [e] at h; cases h
  | some j =>
    rw [e] at h
    obtain ⟨v, h1, h2⟩ := r.get h
    exact ⟨v, h1, h2⟩
theorem s_putOp (i : Nat) {op : Operator} {F : Int → Int → Int} {tpos : Pos} (hp : PIp X op (ipI F)) (he : DX X .val e g) (hi : DX X .val b f) (hN : X.N[i]? = some x := by rfl) (hv : Vis X.env.scope x := by first | exact Or.inl rfl | exact Or.inr (Or.inl rfl) | exact Or.inr (Or.inr rfl)) (hd : (x == ("__debug__" : Str)) = false := by decide)
    (hcd : (x == ("__classdict__" : Str)) = false := by decide)
    (ha : ∀ ov iv new, augStore b ov iv new = (do holding [new, ov, iv] (setItem ov iv new); release [new, ov, iv] []; pure .next) := by intros; rfl) :
    DS X rm (.AugAssign (.Subscript (.Name x p1) b tpos) op e pos) (sPutOp i F f g) :=
  ⟨(ps_augS (pv i hN hv hd hcd) hi.pe get_list he.pe hp set_list ha).imp fun D σ H ⟨G0, H0, G, ρ, o, s, ed, q⟩ => by
    unfold sPutOp at ed
    split at ed
    · rename_i l h
      obtain ⟨k, e2, ed⟩ := bind_some ed
      split at ed
      · rename_i kk
        obtain ⟨x0, e3, ed⟩ := bind_some ed
        split at ed
        · rename_i xx
          obtain ⟨y0, e4, ed⟩ := bind_some ed
          split at ed
          · rename_i yy
            obtain ⟨j, hj, rfl⟩ := map_some ed
            obtain ⟨p, h1, h2, h3, h4⟩ := s.own h
            refine ⟨_, h1, G0, H0, G, ρ, _, s, e2, fun G1 H1 i1 gx1 r1 => ?_⟩
            have s1 := s.gx' gx1
            obtain ⟨p1', k1, k2, k3, k4⟩ := s1.own h
            rw [h1] at k1; cases k1
            obtain ⟨vs, hv', rl⟩ := own_list k4
            cases (show Rep X.K G1 (.int kk) i1 from r1)
            obtain ⟨v1, hv1, rv1⟩ := atI_RepA rl e3
            cases rv1
            refine ⟨p, vs, kk, _, rfl, rfl, hv', hv1, G0, H0, G1, ρ, _, s1, e4, fun G2 H2 y2 gx2 r2 => ?_⟩
            have s2 := s1.gx' gx2
            obtain ⟨p2, m1, m2, m3, m4⟩ := s2.own h
            rw [h1] at m1; cases m1
            obtain ⟨vs2, hv2, rl2⟩ := own_list m4
            cases (show Rep X.K G2 (.int yy) y2 from r2)
            refine ⟨xx, yy, rfl, rfl, p, vs2, kk, j, rfl, rfl, hv2, by rw [← rl2.len]; exact hj, ?_⟩
            exact q G2 σ _ (gx1.g.trans gx2.g) (s2.write h h1 m2 m3 (.lst upd_same (rl2.set j (.int _))))
          · cases ed
        · cases ed
      · cases ed
    · cases ed⟩
end
@[simp] theorem sPutOp_r {F : Int → Int → Int} {f g : SE} {k : Nat} {ρ : Rho} : sPutOp k F f g ρ = (match getS ρ k with
  | some (.own (.list l)) => (f ρ).bind fun k' => match k' with
    | .int k' => (atI l k').bind fun x => match x with
      | .int x => (g ρ).bind fun y => match y with
        | .int y => (ixN l.length k').map fun j => .nx (ρ.set k (.own (.list (l.set j (.int (F x y))))))
        | _ => none
      | _ => none
    | _ => none
  | _ => none) := by rw [getS_eq]; rfl
/-! ### lists of ints -/
theorem clean_is (l : List Int) : clean 9 (.list (l.map .int)) = true := by
  show cleanA 8 _ = true
  exact cleanA_map (fun a => rfl) l
theorem int_inj {a b : Int} (h : PyData.int a = .int b) : a = b := by cases h; rfl
theorem oEq_is (l k : List Int) : oEq (.list (l.map .int)) (.list (k.map .int)) = some (.bool (decide (l = k))) := by
  rw [oEq_c (clean_is l) (clean_is k), eqv_dec (clean_is l) (clean_is k) (l = k)]
  simp only [PyData.list.injEq]
  exact ⟨fun h => map_inj int_inj h, fun h => by rw [h]⟩
theorem oNe_is (l k : List Int) : oNe (.list (l.map .int)) (.list (k.map .int)) = some (.bool (!decide (l = k))) := by
  rw [oNe_c (clean_is l) (clean_is k), eqv_dec (clean_is l) (clean_is k) (l = k)]
  simp only [PyData.list.injEq]
  exact ⟨fun h => map_inj int_inj h, fun h => by rw [h]⟩
theorem any_int (i : Int) : ∀ l : List Int, ((l.map PyData.int).any fun z => PyData.eqv z (.int i)) = decide (i ∈ l)
  | [] => rfl
  | a :: r => by
    rw [List.map_cons, List.any_cons, any_int i r]
    by_cases h : a = i
    · subst h; simp [PyData.eqv]
    · have h' : ¬ i = a := fun e => h e.symm
      simp [PyData.eqv, h, h', List.mem_cons]
theorem oIn_is (i : Int) (l : List Int) : oIn (.int i) (.list (l.map .int)) = some (.bool (decide (i ∈ l))) := by
  unfold oIn
  simp only []
  rw [if_pos ⟨rfl, clean_shaped (by decide) (clean_is l)⟩, any_int]
theorem oNotIn_is (i : Int) (l : List Int) : oNotIn (.int i) (.list (l.map .int)) = some (.bool (!decide (i ∈ l))) := by
  unfold oNotIn
  simp only []
  rw [if_pos ⟨rfl, clean_shaped (by decide) (clean_is l)⟩, any_int]
/-! ### a function on data that nothing unfolds -/
theorem box_ex {α : Type} (a : α) : ∃ b, b = a := ⟨a, rfl⟩
noncomputable def box {α : Type} (a : α) : α := Classical.choose (box_ex a)
theorem box_eq {α : Type} (a : α) : box a = a := Classical.choose_spec (box_ex a)
theorem box_rt {n : Nat} {rm : Md} {ms : List Md} {b : SS} {ds : List PyData} {d : PyData} (h1 : ds.length = ms.length) (h2 : b (slotsOf ms ds ++ List.replicate (n - ds.length) .un) = some (.rt d)) : box (runF n rm ms b) ds = some d := by
  rw [box_eq]; exact runF_rt h1 h2
theorem fn_okB {P : Program} {w : World} {K : PySem.W.Frag} {mg : Str → Option Value} {base : Heap} {x qual : Str} {st : Stmt} {f : Addr} {fd : FuncData} {N ps : List Str} {k n : Nat} {ms : List Md} {rm : Md} {b : SS} (F : Fun K x qual st f fd) (S : FnScope N ps (defScope st))
    (hm : ms.length = ps.length) (hn : N.length = n) (am : ArgMd ms)
    (body : ∀ (cdv : Value) (A : Around) (outer : List Env) (s : Shared) (H : Hp) (E : XK), Room k (A.deeper (PyProof.Rows.envOfC qual (defScope st) s.heap.objs.size f cdv)) → DB (cxOf CX0 P w K mg base N qual (defScope st) f cdv A outer s H E).nox rm (defBody st) b) :
    FnOk P w K mg base CX0 (k + 1) f fd ps (spD K rm ms (box (runF n rm ms b))) := by
  rw [box_eq]; exact fn_ok F S hm hn am body
end DV

namespace DV
open PySem L2 PySem.Spec PyProof.Rows
/-! ### a loop over an own list: the list is lent to the loop -/
def Fr.lend (F : Fr) (i : Nat) (a : Addr) (vs : List V) : Fr := ⟨F.g, F.b, fun j => if j = i then some (a, vs) else F.pin j⟩
section
variable {K : PySem.W.Frag} {F : Fr} {H0 G H G' H' : Hp} {ρ ρ' : Rho} {σ σ' : L2.St} {ds : List PyData} {vs : List V} {i : Nat} {a : Addr}
theorem Sok.lend (s : Sok K F H0 G ρ σ H) (h : ρ[i]? = some (.own (.list ds))) (ha : σ[i]? = some (some (.ref a))) (hn : H0 a = none) (hg : G a = none) (hv : H a = some (.lst vs)) (rl : RepA K G ds vs) :
    Sok K (F.lend i a vs) (upd H0 a (.lst vs)) G (ρ.set i (.pin (.list ds))) σ H := by
  have hi : i < ρ.length := (List.getElem?_eq_some_iff.mp h).1
  have own_of : ∀ {j : Nat} {e : PyData}, (ρ.set i (.pin (.list ds)))[j]? = some (.own e) → ρ[j]? = some (.own e) := fun {j e} q => by
    by_cases z : j = i
    · subst z; rw [List.getElem?_set_self hi] at q; cases q
    · rw [List.getElem?_set_ne (Ne.symm z)] at q; exact q
  refine ⟨⟨s.gx.g, fun b w hw => ?_, s.gx.gh, fun b hb => ?_⟩, by rw [List.length_set]; exact s.len, fun j q hj => ?_, fun j k d1 e b hjk h1 h2 h3 h4 => s.apart j k _ _ b hjk (own_of h1) (own_of h2) h3 h4, fun j d hj => ?_, s.base.trans (Ex.new hn), fun j b us hj => ?_⟩
  · by_cases z : b = a
    · subst z; rw [upd_same] at hw; rw [hv]; exact hw
    · rw [upd_ne z] at hw; exact s.gx.h b w hw
  · by_cases z : b = a
    · subst z; exact absurd hg hb
    · rw [upd_ne z]; exact s.gx.nw b hb
  · by_cases z : j = i
    · subst z
      rw [List.getElem?_set_self hi] at hj
      cases hj
      exact .pin
    · rw [List.getElem?_set_ne (Ne.symm z)] at hj
      have q2 := s.slot j q hj
      generalize e : σ[j]?.getD none = w at q2
      cases q2 with
      | un => exact .un
      | val h => exact .val h
      | bor h => exact .bor h
      | scr h => exact .scr h
      | pin => exact .pin
      | own k1 k2 k3 =>
        refine .own ?_ k2 k3
        rw [upd_ne]
        · exact k1
        · rintro rfl
          exact s.apart i j _ _ _ (fun z' => z z'.symm) h hj ha (getD_some e)
  · by_cases z : j = i
    · subst z
      rw [List.getElem?_set_self hi] at hj
      cases hj
      exact ⟨a, vs, ds, if_pos rfl, ha, rfl, rl⟩
    · rw [List.getElem?_set_ne (Ne.symm z)] at hj
      obtain ⟨b, us, es, p1, p2⟩ := s.pins j d hj
      exact ⟨b, us, es, (if_neg z).trans p1, p2⟩
  · by_cases z : j = i
    · subst z
      have : (some (a, vs) : Option (Addr × List V)) = some (b, us) := (if_pos rfl).symm.trans hj
      cases this
      exact upd_same
    · have hj' : F.pin j = some (b, us) := (if_neg z).symm.trans hj
      have hb := s.wf j b us hj'
      rw [upd_ne]
      · exact hb
      · rintro rfl
        rw [hn] at hb; cases hb
theorem Sok.back (s : Sok K F H0 G ρ σ H) (hn : H0 a = none) (hg : G a = none) (rl : RepA K G ds vs) (eg : Ex G G') {d : PyData} (s' : Sok K (F.lend i a vs) (upd H0 a (.lst vs)) G' ρ' σ' H') (h : ρ'[i]? = some (.pin d)) :
    Sok K F H0 G' (ρ'.set i (.own (.list ds))) σ' H' := by
  have hi : i < ρ'.length := (List.getElem?_eq_some_iff.mp h).1
  have hg0 : F.g a = none := s.gx.g.back hg
  have ha : σ'[i]? = some (some (.ref a)) := by
    obtain ⟨b, us, es, p1, p2, _⟩ := s'.pins i d h
    have : (some (a, vs) : Option (Addr × List V)) = some (b, us) := (if_pos rfl).symm.trans p1
    cases this
    exact p2
  have hg' : G' a = none := by
    cases e : G' a with
    | none => rfl
    | some w =>
      rcases s'.gx.nw a (by rw [e]; simp) with z | z
      · exact absurd hg0 z
      · rw [upd_same] at z; cases z
  have hv : H' a = some (.lst vs) := s'.gx.h a _ upd_same
  refine ⟨⟨s'.gx.g, (Ex.new hn).trans s'.gx.h, s'.gx.gh, fun b hb => ?_⟩, by rw [List.length_set]; exact s'.len, fun j q hj => ?_, fun j k d1 e b hjk h1 h2 h3 h4 => ?_, fun j d' hj => ?_, s.base, s.wf⟩
  · rcases s'.gx.nw b hb with z | z
    · exact .inl z
    · by_cases y : b = a
      · subst y; rw [upd_same] at z; cases z
      · rw [upd_ne y] at z; exact .inr z
  · by_cases z : j = i
    · subst z
      rw [List.getElem?_set_self hi] at hj
      cases hj
      rw [ha]
      exact .own hn hg' (.lst hv (rl.mono eg))
    · rw [List.getElem?_set_ne (Ne.symm z)] at hj
      have q2 := s'.slot j q hj
      generalize e : σ'[j]?.getD none = w at q2
      cases q2 with
      | un => exact .un
      | val h => exact .val h
      | bor h => exact .bor h
      | scr h => exact .scr h
      | pin => exact .pin
      | @own d2 c k1 k2 k3 =>
        refine .own ?_ k2 k3
        by_cases y : c = a
        · subst y; rw [upd_same] at k1; cases k1
        · rw [upd_ne y] at k1; exact k1
  · have nota : ∀ {j : Nat} {e : PyData} {b : Addr}, ρ'[j]? = some (.own e) → σ'[j]? = some (some (.ref b)) → b ≠ a := fun {j e b} q q2 => by
      obtain ⟨c, k1, k2, _⟩ := s'.own q
      rw [q2] at k1; cases k1
      rintro rfl
      rw [upd_same] at k2; cases k2
    by_cases z : j = i
    · subst z
      rw [ha] at h3; cases h3
      rw [List.getElem?_set_ne hjk] at h2
      exact nota h2 h4 rfl
    · rw [List.getElem?_set_ne (Ne.symm z)] at h1
      by_cases y : k = i
      · subst y
        rw [ha] at h4; cases h4
        exact nota h1 h3 rfl
      · rw [List.getElem?_set_ne (Ne.symm y)] at h2
        exact s'.apart j k _ _ b hjk h1 h2 h3 h4
  · by_cases z : j = i
    · subst z
      rw [List.getElem?_set_self hi] at hj; cases hj
    · rw [List.getElem?_set_ne (Ne.symm z)] at hj
      obtain ⟨b, us, es, p1, p2⟩ := s'.pins j d' hj
      exact ⟨b, us, es, (if_neg z).symm.trans p1, p2⟩
end
def sForOwn (i : Nat) (g : SG) (b : SS) : SS := fun ρ => match ρ[i]? with
  | some (.own (.list ds)) => (forGo g b ds (ρ.set i (.pin (.list ds)))).bind fun o => match o with
    | .nx ρ' => match ρ'[i]? with
      | some (.pin _) => some (.nx (ρ'.set i (.own (.list ds))))
      | _ => none
    | .rt d => some (.rt d)
    | _ => none
  | _ => none
section
variable {X : Cx} {rm : Md} {tg : Expr} {body : List Stmt} {g : SG} {f : SS} {x : Str} {p1 pos : Pos}
theorem s_forOwn (i : Nat) (hp : PassesOwn (model X.prog X.w) X.A X.env X.xe) (hc : X.calm = true) (hg : DG X tg g) (hb : DB X rm body f) (hrm : rm = .val ∨ rm = .new := by first | exact Or.inl rfl | exact Or.inr rfl)
    (hN : X.N[i]? = some x := by rfl) (hv : Vis X.env.scope x := by first | exact Or.inl rfl | exact Or.inr (Or.inl rfl) | exact Or.inr (Or.inr rfl)) (hd : (x == ("__debug__" : Str)) = false := by decide) (hcd : (x == ("__classdict__" : Str)) = false := by decide)
    (hs : ∀ y, foldedSetIterable (.Name x p1) X.env y = pure y := by intro _; rfl) : DS X rm (.For tg (.Name x p1) body [] pos) (sForOwn i g f) :=
  ⟨(ps_for hp hc (pi_any (pv i hN hv hd hcd)) hg.pg hb.pss hs).imp fun D σ H ⟨G0, H0, G, ρ, o, s, e, q⟩ => by
    unfold sForOwn at e
    split at e
    · rename_i ds h
      obtain ⟨oo, e2, e3⟩ := bind_some e
      obtain ⟨a, ha, hn, hga, ow⟩ := s.own h
      obtain ⟨vs, hv', rl⟩ := own_list ow
      refine ⟨_, ha, .inl ⟨a, rfl, ⟨vs, .inl (.inl hv')⟩, ?_⟩⟩
      have w : WalkD X.K (upd H0 a (.lst vs)) G (Itl X.K a) ds := WalkD.list (fun H2 _ b => .inl (.inl (b a _ upd_same))) rl
      have s1 := s.lend h ha hn hga hv' rl
      let St (i' : Nat) (σi : L2.St) (Hi : Hp) : Prop := ∃ Gi ρi, Ex G Gi ∧ Sok X.K (G0.lend i a vs) (upd H0 a (.lst vs)) Gi ρi σi Hi ∧ i' ≤ ds.length ∧ forGo g f (ds.drop i') ρi = some oo
      -- the end of the loop
      have fin : ∀ ρ' Gi σi Hi, oo = .nx ρ' → Ex G Gi → Sok X.K (G0.lend i a vs) (upd H0 a (.lst vs)) Gi ρ' σi Hi → D.nx σi Hi := fun ρ' Gi σi Hi eo eg si => by
        subst eo
        simp only [] at e3
        split at e3
        · rename_i d hd'
          cases e3
          exact q Gi σi Hi eg (Sok.back s hn hga rl eg si hd')
        · cases e3
      refine ⟨fun i' m σi Hi => m = ds.length - i' ∧ St i' σi Hi, ⟨_, rfl, G, _, Ex.refl _, s1, Nat.zero_le _, e2⟩, ?_⟩
      rintro i' m σi Hi ⟨rfl, Gi, ρi, eg, si, hi, hr⟩
      by_cases hlt : i' < ds.length
      · refine .inr ⟨w.goes i' Gi Hi hlt eg si.gx.gh si.gx.h, St (i' + 1), fun σ' H' p => ⟨_, by omega, rfl, p⟩, fun y H' hy => ?_⟩
        have hd := List.getElem?_eq_getElem hlt
        obtain ⟨G3, gx3, rx⟩ := w.yields i' _ Gi Hi y H' hd eg si.gx.gh si.gx.h hy
        rw [List.drop_eq_getElem_cons hlt] at hr
        obtain ⟨ρ1, e1, hr⟩ := bind_some hr
        obtain ⟨o1, e2', hr⟩ := bind_some hr
        refine ⟨G0.lend i a vs, upd H0 a (.lst vs), G3, ρi, _, ρ1, si.gx' gx3, rx, e1, fun σ2 s2 => ⟨G0.lend i a vs, upd H0 a (.lst vs), G3, ρ1, o1, s2, e2', ?_⟩⟩
        have eg3 := eg.trans gx3.g
        cases o1 with
        | nx ρ' => exact fun G' σ' H' e4 s4 => ⟨G', ρ', eg3.trans e4, s4, hlt, hr⟩
        | ct ρ' => exact fun G' σ' H' e4 s4 => ⟨G', ρ', eg3.trans e4, s4, hlt, hr⟩
        | bk ρ' =>
          exact fun G' σ' H' e4 s4 => fin ρ' G' σ' H' (Option.some.inj hr).symm (eg3.trans e4) s4
        | rt d =>
          cases hr
          cases e3
          exact fun G' H' v gx r => q G' H' v ⟨gx.g, (Ex.new hn).trans gx.h, gx.gh, fun b hb => (gx.nw b hb).imp id fun z => by
            by_cases y : b = a
            · subst y; rw [upd_same] at z; cases z
            · rw [upd_ne y] at z; exact z⟩ (by
              rcases hrm with rfl | rfl
              · exact r
              · exact RM.start (Ex.new hn) r)
      · have ei : i' = ds.length := by omega
        subst ei
        rw [List.drop_length] at hr
        cases hr
        exact .inl ⟨w.stops Gi Hi eg si.gx.gh si.gx.h, fin ρi Gi σi Hi rfl eg si⟩
    · cases e⟩
end
@[simp] theorem sForOwn_r {g : SG} {b : SS} {k : Nat} {ρ : Rho} : sForOwn k g b ρ = (match getS ρ k with
  | some (.own (.list ds)) => (forGo g b ds (ρ.set k (.pin (.list ds)))).bind fun o => match o with
    | .nx ρ' => match getS ρ' k with
      | some (.pin _) => some (.nx (ρ'.set k (.own (.list ds))))
      | _ => none
    | .rt d => some (.rt d)
    | _ => none
  | _ => none) := by
  rw [getS_eq]; unfold sForOwn
  cases ρ[k]? with
  | none => rfl
  | some s => cases s with
    | own d => cases d with
      | list ds =>
        simp only []
        congr 1; funext o
        cases o with
        | nx ρ' => simp only [getS_eq]
        | _ => rfl
      | _ => rfl
    | _ => rfl
theorem sForOwn_eq {g : SG} {b : SS} {k : Nat} {ρ ρ' : Rho} {ds : List PyData} {d : PyData} (h : getS ρ k = some (.own (.list ds))) (e : forGo g b ds (ρ.set k (.pin (.list ds))) = some (.nx ρ')) (h2 : getS ρ' k = some (.pin d)) : sForOwn k g b ρ = some (.nx (ρ'.set k (.own (.list ds)))) := by
  rw [sForOwn_r, h]
  simp only []
  rw [e]
  simp only [Option.bind_some]
  rw [h2]
end DV

namespace DV
open PySem L2 PySem.Spec PyProof.Rows
section
variable {X : Cx} {m : Md} {a b : Expr} {f g : SE} {pos apos : Pos} {name : Str} {id : String}
/-! ### methods of texts with one argument -/
def MtF (K : PySem.W.Frag) (m : Md) (r : V → List V → Hp → VK → Prop) (F : PyData → PyData → Option PyData) : Prop :=
  ∀ (G H : Hp) (d1 d2 d : PyData) (x y : V) (Q : VK), Ex G H → RepB K G H d1 x → RepB K G H d2 y → F d1 d2 = some d → (∀ G' H' v, Gx G H G' H' → (∀ H0, RM K H0 H m G' H' d v) → Q v H') → r x [y] H Q
theorem d_m1 {r : V → List V → Hp → VK → Prop} {F : PyData → PyData → Option PyData} (slot : PySem.Slot "str" name id) (ty : typeOf (.builtin id) = pure (.type "method_descriptor")) (rule : MtR X id r) (hF : MtF X.K m r F) (hS : ∀ d1 d2 d, F d1 d2 = some d → ∃ z, d1 = .str z)
    (ha : DX X .bor a f) (hb : DX X .bor b g) (hs : starEach [b] X.env = [(false, eval b X.env)] := by rfl) (hbase : attributeBase a name X.env (eval a X.env) = eval a X.env := by rfl) (hline : (apos.endLine == pos.line) = true := by rfl) :
    DX X m (.Call (.Attribute a name apos) [b] [] pos) (eOp F f g) :=
  ⟨(pe_m1 slot ty rule ha.pe hb.pe hs hbase hline).imp fun σ H Q ⟨G0, H0, G, ρ, d, s, ed, q⟩ => by
    obtain ⟨d1, e1, ed⟩ := bind_some ed
    obtain ⟨d2, e2, ed⟩ := bind_some ed
    refine ⟨G0, H0, G, ρ, d1, s, e1, fun G1 H1 x gx1 r1 => ?_⟩
    obtain ⟨z, rfl⟩ := hS _ _ _ ed
    refine ⟨⟨z, RepB.str r1⟩, G0, H0, G1, ρ, d2, s.gx' gx1, e2, fun G2 H2 y gx2 r2 => ?_⟩
    exact hF G2 H2 _ d2 d x y Q gx2.gh (RepB.mono gx2.g gx2.h r1) r2 ed fun G' H' v gx3 r3 => q G' H' v ((gx1.trans gx2).trans gx3) ((r3 H0).start (gx1.trans gx2).h)⟩
def oSplit (a b : PyData) : Option PyData := match a, b with
  | .str x, .str y => if (y.length == 0) = false ∧ x.length + 2 ≤ sizeLine then some (.list ((Txt.split x y).map .str)) else none
  | _, _ => none
theorem strs_A {K : PySem.W.Frag} {G : Hp} : ∀ l : List Str, RepA K G (l.map .str) (l.map V.str)
  | [] => .nil
  | x :: l => .cons (.str x) (strs_A l)
theorem mtf_split {K : PySem.W.Frag} : MtF K .new (fun x xs H Q => ∃ a b, x = .str a ∧ xs = [.str b] ∧ (b.length == 0) = false ∧ a.length + 2 ≤ sizeLine ∧ rNewStrs (Txt.split a b) H Q) oSplit := fun G H d1 d2 d x y Q e r1 r2 h q => by
  unfold oSplit at h
  split at h
  · obtain ⟨⟨c1, c2⟩, rfl⟩ := if_some h
    cases r1.str
    cases r2.str
    refine ⟨_, _, rfl, rfl, c1, c2, fun p hp => q G _ _ (Gx.mine e hp) fun H0 => ⟨p, rfl, hp, e.back hp, .lst upd_same (strs_A _)⟩⟩
  · cases h
theorem s_split {d1 d2 d : PyData} (h : oSplit d1 d2 = some d) : ∃ z, d1 = .str z := by
  unfold oSplit at h
  split at h
  · exact ⟨_, rfl⟩
  · cases h
def oCount (a b : PyData) : Option PyData := match a, b with
  | .str x, .str y => some (.int (Txt.count x y))
  | _, _ => none
theorem mtf_count {K : PySem.W.Frag} : MtF K .val (fun x xs H Q => ∃ a b, x = .str a ∧ xs = [.str b] ∧ Q (.int (Txt.count a b)) H) oCount := fun G H d1 d2 d x y Q e r1 r2 h q => by
  unfold oCount at h
  split at h
  · cases h
    cases r1.str
    cases r2.str
    exact ⟨_, _, rfl, rfl, q G H _ (Gx.refl e) fun _ => .int _⟩
  · cases h
theorem s_count {d1 d2 d : PyData} (h : oCount d1 d2 = some d) : ∃ z, d1 = .str z := by
  unfold oCount at h
  split at h
  · exact ⟨_, rfl⟩
  · cases h
theorem d_split (ha : DX X .bor a f) (hb : DX X .bor b g) (hs : starEach [b] X.env = [(false, eval b X.env)] := by rfl) (hbase : attributeBase a "split" X.env (eval a X.env) = eval a X.env := by rfl) (hline : (apos.endLine == pos.line) = true := by rfl) :
    DX X .new (.Call (.Attribute a "split" apos) [b] [] pos) (eOp oSplit f g) := d_m1 F.slot_str_split F.type_str_split mt_split mtf_split (fun _ _ _ => s_split) ha hb hs hbase hline
theorem d_count (ha : DX X .bor a f) (hb : DX X .bor b g) (hs : starEach [b] X.env = [(false, eval b X.env)] := by rfl) (hbase : attributeBase a "count" X.env (eval a X.env) = eval a X.env := by rfl) (hline : (apos.endLine == pos.line) = true := by rfl) :
    DX X .val (.Call (.Attribute a "count" apos) [b] [] pos) (eOp oCount f g) := d_m1 F.slot_str_count F.type_str_count mt_count mtf_count (fun _ _ _ => s_count) ha hb hs hbase hline
end
/-! ### x.extend(new list) -/
section
variable {X : Cx} {rm : Md} {a : Expr} {f : SE} {pos p1 cpos apos : Pos} {x : Str}
theorem s_ext (i : Nat) (ha : DX X .new a f) (hN : X.N[i]? = some x := by rfl) (hv : Vis X.env.scope x := by first | exact Or.inl rfl | exact Or.inr (Or.inl rfl) | exact Or.inr (Or.inr rfl)) (hd : (x == ("__debug__" : Str)) = false := by decide)
    (hcd : (x == ("__classdict__" : Str)) = false := by decide)
    (hbase : attributeBase (.Name x p1) "extend" X.env (eval (.Name x p1) X.env) = eval (.Name x p1) X.env := by rfl)
    (hfew : ((backTo cpos (starEach (a :: []) X.env)).all (fun x => !x.1) && (backToKw cpos (keywordEach [] X.env)).all (fun x => x.1.isSome)
      && decide ((a :: []).length + ([] : List Keyword).length + (if ([] : List Keyword).isEmpty then 0 else 1) < 30)) = true := by rfl)
    (hline : (apos.endLine == cpos.line) = true := by rfl) (hs : starEach (a :: []) X.env = (false, eval a X.env) :: starEach [] X.env := by rfl) (hplain : (backTo cpos (starEach [] X.env)).any (·.1) = false := by rfl)
    (hsw : swapsWith (.Call (.Attribute (.Name x p1) "extend" apos) [a] [] cpos) none pos.line X.env = pure false := by rfl) :
    DS X rm (.Expr (.Call (.Attribute (.Name x p1) "extend" apos) [a] [] cpos) pos) (sMut fExt i (aCons f aNil)) :=
  ⟨(ps_expr (pe_bm PySem.F.plainAttrs_list PySem.F.slot_list_extend PySem.F.type_list_extend mt_extend (pv i hN hv hd hcd) (a_cons ha a_nil hs).pa hbase hfew hline hs hplain) hsw).imp
    fun D σ H ⟨G0, H0, G, ρ, o, s, e, q⟩ => by
    unfold sMut at e
    split at e
    · rename_i l h
      obtain ⟨ds, e1, e⟩ := bind_some e
      obtain ⟨d, e2, e⟩ := bind_some e
      cases e
      obtain ⟨p, h1, h2, h3, h4⟩ := s.own h
      obtain ⟨vs, hv, _⟩ := own_list h4
      refine ⟨_, h1, .inl ⟨rfl, _, SqL.of hv⟩, G0, H0, G, ρ, ds, s, e1, fun G1 H1 us gx ra => ?_⟩
      have s1 := s.gx' gx
      obtain ⟨p', k1, k2, k3, k4⟩ := s1.own h
      rw [h1] at k1; cases k1
      obtain ⟨vs', hv', rl⟩ := own_list k4
      unfold fExt at e2
      split at e2
      · rename_i k
        obtain ⟨hl, rfl⟩ := if_some e2
        cases ra with
        | cons r1 t =>
          cases t
          obtain ⟨b, rfl, hb, gb, ob⟩ := (show ∃ b, _ = V.ref b ∧ H b = none ∧ G1 b = none ∧ Own X.K G1 H1 b (.list k) from r1)
          obtain ⟨zs, hz, rz⟩ := own_list ob
          refine ⟨p, b, vs', zs, rfl, rfl, hv', hz, by rw [← rl.len, ← rz.len]; exact hl, ?_⟩
          exact q G1 σ _ gx.g (s1.write h h1 k2 k3 (.lst upd_same (rl.app rz)))
      · cases e2
    · cases e⟩
end
theorem fExt_eq {l k : List PyData} (h : l.length + k.length ≤ sizeLine) : fExt l [.list k] = some (.list (l ++ k)) := if_pos h
end DV

namespace DV
open PySem L2 PySem.Spec PyProof.Rows
/-! ### methods of texts with more arguments -/
def eBm (F : PyData → List PyData → Option PyData) (f : SE) (r : SA) : SE := fun ρ => (f ρ).bind fun x => (r ρ).bind fun ds => F x ds
@[simp] theorem eBm_r {F : PyData → List PyData → Option PyData} {f : SE} {r : SA} {ρ : Rho} : eBm F f r ρ = (f ρ).bind fun x => (r ρ).bind fun ds => F x ds := rfl
section
variable {X : Cx} {m : Md} {a e : Expr} {es : List Expr} {f : SE} {t : SA} {ms : List Md} {pos apos : Pos} {name : Str} {id : String}
def MtF2 (K : PySem.W.Frag) (m : Md) (ms : List Md) (r : V → List V → Hp → VK → Prop) (F : PyData → List PyData → Option PyData) : Prop :=
  ∀ (G H0 Hs H : Hp) (d1 d : PyData) (ds : List PyData) (x : V) (xs : List V) (Q : VK), Ex G H → RepB K G H d1 x → RMs K H0 Hs G H ms ds xs → F d1 ds = some d → (∀ G' H' v, Gx G H G' H' → (∀ H0, RM K H0 H m G' H' d v) → Q v H') → r x xs H Q
theorem d_ms {r : V → List V → Hp → VK → Prop} {F : PyData → List PyData → Option PyData} (slot : PySem.Slot "str" name id) (ty : typeOf (.builtin id) = pure (.type "method_descriptor")) (rule : MtR X id r) (hF : MtF2 X.K m ms r F) (hS : ∀ d1 d2 d, F d1 d2 = some d → ∃ z, d1 = .str z)
    (ha : DX X .bor a f) (hb : DA X ms (e :: es) t)
    (hbase : attributeBase a name X.env (eval a X.env) = eval a X.env := by rfl)
    (hfew : ((backTo pos (starEach (e :: es) X.env)).all (fun x => !x.1) && (backToKw pos (keywordEach [] X.env)).all (fun x => x.1.isSome)
      && decide ((e :: es).length + ([] : List Keyword).length + (if ([] : List Keyword).isEmpty then 0 else 1) < 30)) = true := by rfl)
    (hline : (apos.endLine == pos.line) = true := by rfl) (hs : starEach (e :: es) X.env = (false, eval e X.env) :: starEach es X.env := by rfl) (hplain : (backTo pos (starEach es X.env)).any (·.1) = false := by rfl) :
    DX X m (.Call (.Attribute a name apos) (e :: es) [] pos) (eBm F f t) :=
  ⟨(pe_bm PySem.F.plainAttrs_str slot ty rule ha.pe hb.pa hbase hfew hline hs hplain).imp fun σ H Q ⟨G0, H0, G, ρ, d, s, ed, q⟩ => by
    obtain ⟨d1, e1, ed⟩ := bind_some ed
    obtain ⟨ds, e2, ed⟩ := bind_some ed
    refine ⟨G0, H0, G, ρ, d1, s, e1, fun G1 H1 x gx1 r1 => ?_⟩
    obtain ⟨z, rfl⟩ := hS _ _ _ ed
    refine ⟨?_, G0, H0, G1, ρ, ds, s.gx' gx1, e2, fun G2 H2 ys gx2 r2 => ?_⟩
    · cases RepB.str r1
      exact (rfl : ("str" : String) = "str")
    · exact hF G2 _ _ H2 _ d ds x ys Q gx2.gh (RepB.mono gx2.g gx2.h r1) r2 ed fun G' H' v gx3 r3 => q G' H' v ((gx1.trans gx2).trans gx3) ((r3 H0).start (gx1.trans gx2).h)⟩
def oFind3 (a : PyData) (ds : List PyData) : Option PyData := match a, ds with
  | .str x, [.str y, .int i] => some (.int (Txt.find3 x y i))
  | _, _ => none
theorem mtf_find3 {K : PySem.W.Frag} : MtF2 K .val [.bor, .val] (fun x xs H Q => ∃ (a b : Str) (i : Int), x = .str a ∧ xs = [.str b, .int i] ∧ Q (.int (Txt.find3 a b i)) H) oFind3 := fun G H0 Hs H d1 d ds x xs Q e r1 r2 h q => by
  unfold oFind3 at h
  split at h
  · cases h
    cases r1.str
    cases r2 with
    | cons h1 t =>
      cases t with
      | cons h2 t =>
        cases t
        cases (RepB.str h1)
        cases (show Rep K G (.int _) _ from h2)
        exact ⟨_, _, _, rfl, rfl, q G H _ (Gx.refl e) fun _ => .int _⟩
  · cases h
theorem s_find3 {d1 : PyData} {d2 : List PyData} {d : PyData} (h : oFind3 d1 d2 = some d) : ∃ z, d1 = .str z := by
  unfold oFind3 at h
  split at h
  · exact ⟨_, rfl⟩
  · cases h
end
end DV

namespace DV
open PySem L2 PySem.Spec PyProof.Rows
/-! ### calls with keywords -/
theorem RMs.app {K : PySem.W.Frag} {H0 Hs G H : Hp} : ∀ {m1 m2 : List Md} {d1 d2 : List PyData} {v1 v2 : List V}, RMs K H0 Hs G H m1 d1 v1 → RMs K H0 Hs G H m2 d2 v2 → RMs K H0 Hs G H (m1 ++ m2) (d1 ++ d2) (v1 ++ v2)
  | _, _, _, _, _, _, .nil, t => t
  | _, _, _, _, _, _, .cons h r, t => .cons h (RMs.app r t)
structure DK (X : Cx) (ms : List Md) (kws : List Keyword) (f : SA) : Prop where
  pk : PK X kws (tA X.K ms f)
section
variable {X : Cx} {m : Md} {ms ms1 ms2 ms3 : List Md} {e : Expr} {es : List Expr} {kws : List Keyword} {f : SE} {r r2 : SA} {nm : Option Str} {kpos pos p : Pos} {x : Str} {k n : Nat} {ps ks : List Str} {rm : Md} {Fn : List PyData → Option PyData} {dv : List V} {dd : List PyData}
theorem k_nil : DK X [] [] aNil := ⟨⟨fun pos pins s σ H Q I h => pk_nil.run pos pins s σ H Q I (by
  obtain ⟨G0, H0, G, ρ, ds, s, e, q⟩ := h
  cases e
  exact q G H [] (Gx.refl s.gx.gh) .nil)⟩⟩
theorem k_cons (ha : DX X m e f) (hr : DK X ms kws r) : DK X (m :: ms) (⟨nm, e, kpos⟩ :: kws) (aCons f r) := ⟨⟨fun pos pins s σ H Q I h => (pk_cons ha.pe hr.pk).run pos pins s σ H Q I (by
  obtain ⟨G0, H0, G, ρ, ds, s, ed, q⟩ := h
  obtain ⟨d, e1, ed⟩ := bind_some ed
  obtain ⟨ds', e2, ed⟩ := bind_some ed
  cases ed
  refine ⟨G0, H0, G, ρ, d, s, e1, fun G1 H1 v gx1 r1 => ⟨G0, H0, G1, ρ, ds', s.gx' gx1, e2, fun G2 H2 vs gx2 r2 => q G2 H2 (v :: vs) (gx1.trans gx2) (.cons (r1.mono gx2) (r2.start gx1.h))⟩⟩)⟩⟩
/-- a def that is called with keywords: n values by place, keywords ks behind them, then the defaults dv -/
def FnKw (P : Program) (w : World) (K : PySem.W.Frag) (mg : Str → Option Value) (base : Heap) (x : Str) (ps : List Str) (k : Nat) (rm : Md) (ms : List Md) (F : List PyData → Option PyData) (n : Nat) (ks : List Str) (dv : List V) : Prop :=
  ∃ (f : Addr) (fd : FuncData) (g : List Value → List Value → List Value), FnOk P w K mg base CX0 k f fd ps (spD K rm ms F) ∧ mg x = some (.ref f) ∧ PySem.W.keepIn K (.ref f) = true ∧ KBn K fd ps n ks g (fun vs zs => vs ++ (zs ++ dv))
def eCallK (F : List PyData → Option PyData) (r r2 : SA) (dd : List PyData) : SE := fun ρ => (r ρ).bind fun a => (r2 ρ).bind fun b => F (a ++ (b ++ dd))
@[simp] theorem eCallK_r {F : List PyData → Option PyData} {ρ : Rho} : eCallK F r r2 dd ρ = (r ρ).bind fun a => (r2 ρ).bind fun b => F (a ++ (b ++ dd)) := rfl
theorem d_fnK (F : FnKw X.prog X.w X.K X.mg X.base x ps k rm (ms1 ++ (ms2 ++ ms3)) Fn n ks dv) (hr : Room k X.A) (ha : DA X ms1 (e :: es) r) (hkw : DK X ms2 kws r2) (hd : ∀ (H0 Hs G H : Hp), RMs X.K H0 Hs G H ms3 dd dv) (am : ArgMd (ms1 ++ (ms2 ++ ms3))) (hn : ms1.length = n) (hk2 : ms2.length = ks.length)
    (hrm : rm = .val ∨ rm = .new := by first | exact Or.inl rfl | exact Or.inr rfl) (hg : Gl X x := by rfl) (hall : (backToKw pos (keywordEach kws X.env)).all (·.1.isSome) = true := by rfl) (hks : (backToKw pos (keywordEach kws X.env)).filterMap (·.1) = ks := by rfl)
    (hdb : (x == ("__debug__" : Str)) = false := by decide) (he : starEach (e :: es) X.env = (false, eval e X.env) :: starEach es X.env := by rfl)
    (hpl : ((backTo pos (starEach (e :: es) X.env)).any (·.1) || (backToKw pos (keywordEach kws X.env)).any (·.1.isNone)) = false := by rfl) :
    DX X rm (.Call (.Name x p) (e :: es) kws pos) (eCallK Fn r r2 dd) := by
  obtain ⟨f, fd, g, F, hm, hk, hb⟩ := F
  refine ⟨(pe_callN F hr hg hm hk hb pass0 ha.pa hkw.pk hall hks hdb he hpl).imp fun σ H Q ⟨G0, H0, G, ρ, d, s, ed, q⟩ => ?_⟩
  obtain ⟨d1, e1, ed⟩ := bind_some ed
  obtain ⟨d2, e2, ed⟩ := bind_some ed
  refine ⟨G0, H0, G, ρ, d1, s, e1, fun G1 H1 vs gx1 r1 => ⟨G0, H0, G1, ρ, d2, s.gx' gx1, e2, fun G2 H2 zs gx2 r2 => ⟨r1.len.2.trans hn, r2.len.2.trans hk2, ?_⟩⟩⟩
  have ra := ((r1.mono gx2).start (Ex.refl _)).app ((r2.start gx1.h).app (hd H0 H G2 H2))
  refine ⟨ra.len.2, G2, _, d, gx2.gh, ra.call am, ed, fun G3 H3 v gx3 r3 => q G3 H3 v ((gx1.trans gx2).trans gx3) ?_⟩
  rcases hrm with rfl | rfl
  · exact r3
  · exact RM.start (gx1.trans gx2).h r3
end
/-! ### a list that is given away: return f(.., xs, ..) -/
def slotsM : List Md → List PyData → Rho
  | .new :: ms, d :: ds => .own d :: slotsM ms ds
  | _ :: ms, d :: ds => .val d :: slotsM ms ds
  | _, _ => []
def runM (n : Nat) (rm : Md) (ms : List Md) (f : SS) : List PyData → Option PyData := fun ds =>
  if ds.length = ms.length then (f (slotsM ms ds ++ List.replicate (n - ds.length) .un)).bind fun o => match o, rm with
    | .rt d, _ => some d
    | .nx _, .val => some .none
    | _, _ => none
  else none
def spM (K : PySem.W.Frag) (rm : Md) (ms : List Md) (F : List PyData → Option PyData) : Sp := fun vs H Q _ =>
  vs.length = ms.length ∧ ∃ G H0 ds d, Gx G H0 G H ∧ RMs K H0 H0 G H ms ds vs ∧ F ds = some d ∧ ∀ G' H' v, Gx G H0 G' H' → RM K H0 H0 rm G' H' d v → Q v H'
def ArgMv (ms : List Md) : Prop := ∀ m ∈ ms, m = .val ∨ m = .new
def oneNew : List Md → Bool
  | [] => true
  | .new :: ms => ms.all (· != Md.new)
  | _ :: ms => oneNew ms
theorem slotsM_ok {K : PySem.W.Frag} {B H0 G H : Hp} : ∀ {ms : List Md} {ds : List PyData} {vs : List V}, ArgMv ms → RMs K H0 H0 G H ms ds vs → (slotsM ms ds).length = vs.length ∧
    (∀ (i : Nat) (s : Slot), (slotsM ms ds)[i]? = some s → SlotOk K B H0 G H s ((vs.map some)[i]?.getD none) ∧ (∀ d, s ≠ .pin d) ∧ ((∃ d, s = .own d) → ms[i]? = some Md.new))
  | _, _, _, _, .nil => ⟨rfl, fun i s h => by simp [slotsM] at h⟩
  | m :: ms, d :: ds, v :: vs, am, .cons h t => by
    obtain ⟨l, q⟩ := slotsM_ok (B := B) (fun m hm => am m (List.mem_cons_of_mem _ hm)) t
    rcases am m List.mem_cons_self with rfl | rfl
    · refine ⟨congrArg (· + 1) l, fun i s hs => ?_⟩
      cases i with
      | zero =>
        cases hs
        exact ⟨.val h, (fun d e => by cases e), fun ⟨d, e⟩ => by cases e⟩
      | succ i => exact q i s hs
    · refine ⟨congrArg (· + 1) l, fun i s hs => ?_⟩
      cases i with
      | zero =>
        cases hs
        obtain ⟨p, rfl, h1, h2, h3⟩ := h
        exact ⟨.own h1 h2 h3, (fun d e => by cases e), fun _ => rfl⟩
      | succ i => exact q i s hs
theorem oneNew_at : ∀ {ms : List Md}, oneNew ms = true → ∀ i j : Nat, ms[i]? = some Md.new → ms[j]? = some Md.new → i = j
  | [], _, i, j, h, _ => by simp at h
  | m :: ms, ho, i, j, hi, hj => by
    have no : (ms.all (· != Md.new)) = true → ∀ k, ms[k]? ≠ some Md.new := fun h k hk => by
      have := (List.all_eq_true.mp h) _ (List.mem_of_getElem? hk)
      simp at this
    have key : m = Md.new ∨ m ≠ Md.new := by by_cases h : m = Md.new <;> simp [h]
    rcases key with rfl | hm
    · have ho : (ms.all (· != Md.new)) = true := ho
      cases i with
      | zero => cases j with
        | zero => rfl
        | succ j => exact absurd (by simpa using hj) (no ho j)
      | succ i => exact absurd (by simpa using hi) (no ho i)
    · have ho : oneNew ms = true := by cases m <;> first | exact ho | exact absurd rfl hm
      cases i with
      | zero => exact absurd (by simpa using hi) hm
      | succ i => cases j with
        | zero => exact absurd (by simpa using hj) hm
        | succ j => exact congrArg (· + 1) (oneNew_at ho i j (by simpa using hi) (by simpa using hj))
theorem fn_okM0 {P : Program} {w : World} {K : PySem.W.Frag} {mg : Str → Option Value} {base : Heap} {x qual : Str} {st : Stmt} {f : Addr} {fd : FuncData} {N ps : List Str} {k n : Nat} {ms : List Md} {rm : Md} {b : SS} (F : Fun K x qual st f fd) (S : FnScope N ps (defScope st))
    (hm : ms.length = ps.length) (hn : N.length = n) (am : ArgMv ms) (one : oneNew ms = true)
    (body : ∀ (cdv : Value) (A : Around) (outer : List Env) (s : Shared) (H : Hp) (E : XK), Room k (A.deeper (PyProof.Rows.envOfC qual (defScope st) s.heap.objs.size f cdv)) → DB (cxOf CX0 P w K mg base N qual (defScope st) f cdv A outer s H E).nox rm (defBody st) b) :
    FnOk P w K mg base CX0 (k + 1) f fd ps (spM K rm ms (runM n rm ms b)) := by
  subst hn
  refine F.ok S (fun vs H Q E h => h.1.trans hm) fun cdv A outer s H vs Q E hr h => ?_
  obtain ⟨hl, G, H0, ds, d, gx, ra, hF, q⟩ := h
  refine ⟨_, (body cdv A outer s H E hr).pss, ?_⟩
  obtain ⟨l1, so⟩ := slotsM_ok (B := H0) am ra
  have hpl : ps.length ≤ N.length := by have := congrArg List.length S.pre; rw [List.length_take] at this; omega
  obtain ⟨hl2, hF⟩ := ite_some hF
  obtain ⟨o, e1, e2⟩ := bind_some hF
  have dv : ds.length = vs.length := hl2.trans hl.symm
  have noOwn : ∀ (i : Nat) (s : Slot), (slotsM ms ds ++ List.replicate (N.length - ds.length) .un)[i]? = some s → (∃ d, s = .own d) → ms[i]? = some Md.new := fun i s hs ho => by
    by_cases hi : i < vs.length
    · rw [List.getElem?_append_left (by rw [l1]; exact hi)] at hs
      exact (so i s hs).2.2 ho
    · rw [List.getElem?_append_right (by rw [l1]; omega), List.getElem?_replicate] at hs
      obtain ⟨d, rfl⟩ := ho
      split at hs <;> cases hs
  refine ⟨⟨G, H0, fun _ => none⟩, H0, G, _, o, ⟨gx, ?_, fun i t ht => ?_, fun i j d1 d2 a hij h1 h2 => ?_, fun i d h1 => ?_, Ex.refl _, fun i a vs h => (by cases h)⟩, e1, ?_⟩
  · unfold L2.start
    rw [List.length_append, List.length_append, List.length_map, List.length_replicate, List.length_replicate, l1, dv]
  · unfold L2.start
    by_cases hi : i < vs.length
    · rw [List.getElem?_append_left (by rw [l1]; exact hi)] at ht
      rw [List.getElem?_append_left (by simpa using hi)]
      exact (so i t ht).1
    · rw [List.getElem?_append_right (by rw [l1]; omega), List.getElem?_replicate] at ht
      split at ht
      · cases ht; exact .un
      · cases ht
  · exact absurd (oneNew_at one i j (noOwn i _ h1 ⟨_, rfl⟩) (noOwn j _ h2 ⟨_, rfl⟩)) hij
  · exfalso
    by_cases hi : i < vs.length
    · rw [List.getElem?_append_left (by rw [l1]; exact hi)] at h1
      exact (so i _ h1).2.1 _ rfl
    · rw [List.getElem?_append_right (by rw [l1]; omega), List.getElem?_replicate] at h1
      split at h1 <;> cases h1
  · cases o with
    | rt d' =>
      have e3 : d' = d := by cases rm <;> exact Option.some.inj e2
      subst e3
      exact fun G' H' v gx r => q G' H' v gx r
    | nx ρ' =>
      cases rm with
      | val =>
        have e3 : PyData.none = d := Option.some.inj e2
        subst e3
        exact fun G' σ' H' _ s' => q G' H' .non s'.gx .non
      | _ => cases e2
    | bk _ => cases rm <;> cases e2
    | ct _ => cases rm <;> cases e2
theorem fn_okM {P : Program} {w : World} {K : PySem.W.Frag} {mg : Str → Option Value} {base : Heap} {x qual : Str} {st : Stmt} {f : Addr} {fd : FuncData} {N ps : List Str} {k n : Nat} {ms : List Md} {rm : Md} {b : SS} (F : Fun K x qual st f fd) (S : FnScope N ps (defScope st))
    (hm : ms.length = ps.length) (hn : N.length = n) (am : ArgMv ms) (one : oneNew ms = true)
    (body : ∀ (cdv : Value) (A : Around) (outer : List Env) (s : Shared) (H : Hp) (E : XK), Room k (A.deeper (PyProof.Rows.envOfC qual (defScope st) s.heap.objs.size f cdv)) → DB (cxOf CX0 P w K mg base N qual (defScope st) f cdv A outer s H E).nox rm (defBody st) b) :
    FnOk P w K mg base CX0 (k + 1) f fd ps (spM K rm ms (box (runM n rm ms b))) := by
  rw [box_eq]; exact fn_okM0 F S hm hn am one body
theorem runM_rt {n : Nat} {rm : Md} {ms : List Md} {ds : List PyData} {f : SS} {d : PyData} (hl : ds.length = ms.length) (h : f (slotsM ms ds ++ List.replicate (n - ds.length) .un) = some (.rt d)) : runM n rm ms f ds = some d := by
  unfold runM
  rw [if_pos hl, h]
  cases rm <;> rfl
theorem boxM_rt {n : Nat} {rm : Md} {ms : List Md} {b : SS} {ds : List PyData} {d : PyData} (h1 : ds.length = ms.length) (h2 : b (slotsM ms ds ++ List.replicate (n - ds.length) .un) = some (.rt d)) : box (runM n rm ms b) ds = some d := by
  rw [box_eq]; exact runM_rt h1 h2
theorem mv_nil : ArgMv [] := fun m hm => absurd hm List.not_mem_nil
theorem mv_val {ms : List Md} (h : ArgMv ms) : ArgMv (.val :: ms) := fun m hm => (List.mem_cons.mp hm).elim (fun e => .inl e) (h m)
theorem mv_new {ms : List Md} (h : ArgMv ms) : ArgMv (.new :: ms) := fun m hm => (List.mem_cons.mp hm).elim (fun e => .inr e) (h m)
/-- arguments, own lists among them -/
def tAm (K : PySem.W.Frag) (ms : List Md) (f : SA) : TA := fun σ H Q => ∃ G0 H0 G ρ ds, Sok K G0 H0 G ρ σ H ∧ f ρ = some ds ∧ ∀ G' H' vs, Gx G H G' H' → RMs K H0 H0 G' H' ms ds vs → Q vs H'
structure DAm (X : Cx) (ms : List Md) (es : List Expr) (f : SA) : Prop where
  pa : PA X es (tAm X.K ms f)
def eM (i : Nat) : SE := fun ρ => match ρ[i]? with
  | some (.own d) => some d
  | _ => none
@[simp] theorem eM_0 {d : PyData} {ρ : Rho} : eM 0 (.own d :: ρ) = some d := rfl
@[simp] theorem eM_s {s : Slot} {ρ : Rho} {k : Nat} : eM (k + 1) (s :: ρ) = eM k ρ := rfl
section
variable {X : Cx} {rm m : Md} {ms : List Md} {e : Expr} {es : List Expr} {f : SE} {r : SA} {pos p : Pos} {x y : Str} {k : Nat} {ps : List Str} {Fn : List PyData → Option PyData}
theorem am0 : DAm X [] [] aNil := ⟨(a_nil (X := X)).pa.imp fun σ H Q ⟨G0, H0, G, ρ, ds, s, e, q⟩ => ⟨G0, H0, G, ρ, ds, s, e, fun G' H' vs gx ra => q G' H' vs gx (ra.start (s.gx.h))⟩⟩
theorem am_c (h : DX X m e f) (hr : DAm X ms es r) (hs : starEach (e :: es) X.env = (false, eval e X.env) :: starEach es X.env := by rfl) : DAm X (m :: ms) (e :: es) (aCons f r) :=
  ⟨(pa_cons h.pe hr.pa hs).imp fun σ H Q ⟨G0, H0, G, ρ, ds, s, ed, q⟩ => by
    obtain ⟨d, e1, ed⟩ := bind_some ed
    obtain ⟨ds', e2, ed⟩ := bind_some ed
    cases ed
    exact ⟨G0, H0, G, ρ, d, s, e1, fun G1 H1 v gx1 r1 => ⟨G0, H0, G1, ρ, ds', s.gx' gx1, e2, fun G2 H2 vs gx2 r2 => q G2 H2 (v :: vs) (gx1.trans gx2) (.cons ((r1.start s.gx.h).mono gx2) r2)⟩⟩⟩
theorem am_m (i : Nat) {pos' : Pos} (hr : DAm X ms es r) (hN : X.N[i]? = some y := by rfl) (hv : Vis X.env.scope y := by first | exact Or.inl rfl | exact Or.inr (Or.inl rfl) | exact Or.inr (Or.inr rfl)) (hd : (y == ("__debug__" : Str)) = false := by decide)
    (hcd : (y == ("__classdict__" : Str)) = false := by decide) (hs : starEach (.Name y pos' :: es) X.env = (false, eval (.Name y pos') X.env) :: starEach es X.env := by rfl) : DAm X (.new :: ms) (.Name y pos' :: es) (aCons (eM i) r) :=
  ⟨(pa_cons (pe_var hN hv hd hcd) hr.pa hs).imp fun σ H Q ⟨G0, H0, G, ρ, ds, s, ed, q⟩ => by
    obtain ⟨d, e1, ed⟩ := bind_some ed
    obtain ⟨ds', e2, ed⟩ := bind_some ed
    cases ed
    unfold eM at e1
    split at e1
    · cases e1
      rename_i h
      obtain ⟨a, h1, h2, h3, h4⟩ := s.own h
      refine ⟨_, h1, G0, H0, G, ρ, ds', s, e2, fun G2 H2 vs gx2 r2 => q G2 H2 _ gx2 (.cons ?_ r2)⟩
      exact RM.mono gx2 (show RM X.K H0 H0 .new G H d (.ref a) from ⟨a, rfl, h2, h3, h4⟩)
    · cases e1⟩
def Fn1M (P : Program) (w : World) (K : PySem.W.Frag) (mg : Str → Option Value) (base : Heap) (x : Str) (ps : List Str) (k : Nat) (rm : Md) (ms : List Md) (F : List PyData → Option PyData) : Prop :=
  ∃ (f : Addr) (fd : FuncData), FnOk P w K mg base CX0 k f fd ps (spM K rm ms F) ∧ mg x = some (.ref f) ∧ PySem.W.keepIn K (.ref f) = true ∧ Binds K fd ps []
def sRetMov (F : List PyData → Option PyData) (r : SA) : SS := fun ρ => (r ρ).bind fun ds => (F ds).bind fun d => some (.rt d)
@[simp] theorem sRetMov_r {F : List PyData → Option PyData} {ρ : Rho} : sRetMov F r ρ = (r ρ).bind fun ds => (F ds).bind fun d => some (.rt d) := rfl
theorem s_retMov {pos2 : Pos} (F : Fn1M X.prog X.w X.K X.mg X.base x ps k rm ms Fn) (hr : Room k X.A) (ha : DAm X ms (e :: es) r) (hg : Gl X x := by rfl) (hdb : (x == ("__debug__" : Str)) = false := by decide) (he : starEach (e :: es) X.env = (false, eval e X.env) :: starEach es X.env := by rfl) (hpl : (backTo pos (starEach es X.env)).any (·.1) = false := by rfl) :
    DS X rm (.Return (some (.Call (.Name x p) (e :: es) [] pos)) pos2) (sRetMov Fn r) := by
  obtain ⟨f, fd, F, hm, hk, hb⟩ := F
  refine ⟨(ps_ret (pe_call F hr hg hm hk hb .nil pass0 ha.pa hdb he hpl)).imp fun D σ H ⟨G0, H0, G, ρ, o, s, ed, q⟩ => ?_⟩
  obtain ⟨ds, e1, ed⟩ := bind_some ed
  obtain ⟨d, e2, ed⟩ := bind_some ed
  cases ed
  refine ⟨G0, H0, G, ρ, ds, s, e1, fun G1 H1 vs gx1 ra => ?_⟩
  show spM X.K rm ms Fn (vs ++ []) H1 _ E0
  rw [List.append_nil]
  have s1 := s.gx' gx1
  exact ⟨ra.len.2, G1, H0, ds, d, ⟨Ex.refl _, s1.gx.h, s1.gx.gh, fun _ h => .inl h⟩, ra, e2, fun G2 H2 v gx2 r2 => q G2 H2 v ⟨s1.gx.g.trans gx2.g, gx2.h, gx2.gh, fun a ha => (gx2.nw a ha).elim (s1.gx.nw a) .inr⟩ r2⟩
end
end DV

namespace Lw
open PySem L2 DV
/-! ### the text -/
def topS (i : Nat) : Stmt := PySem.Challenge.pw_quirekiln_k16_places_of_a_full_line.main.body.getD i (.Pass ⟨0, 0, 0, 0⟩)
abbrev s__law_mixed : Stmt := topS 16
abbrev N__law_mixed : List Str := ["cell", "once", "twice"]
theorem sc__law_mixed : FnScope N__law_mixed ["cell"] (defScope s__law_mixed) := ⟨rfl, rfl, rfl, by decide +kernel, rfl, by decide +kernel, by decide +kernel⟩
abbrev s__law_source : Stmt := topS 17
abbrev N__law_source : List Str := ["cell"]
theorem sc__law_source : FnScope N__law_source ["cell"] (defScope s__law_source) := ⟨rfl, rfl, rfl, by decide +kernel, rfl, by decide +kernel, by decide +kernel⟩
abbrev s__law_cell : Stmt := topS 15
abbrev N__law_cell : List Str := ["script", "k"]
theorem sc__law_cell : FnScope N__law_cell ["script", "k"] (defScope s__law_cell) := ⟨rfl, rfl, rfl, by decide +kernel, rfl, by decide +kernel, by decide +kernel⟩
abbrev s__law_chars : Stmt := topS 18
abbrev N__law_chars : List Str := ["chars"]
theorem sc__law_chars : FnScope N__law_chars [] (defScope s__law_chars) := ⟨rfl, rfl, rfl, by decide +kernel, rfl, by decide +kernel, by decide +kernel⟩
abbrev s__law_piece : Stmt := topS 19
abbrev N__law_piece : List Str := ["cell", "chars", "piece", "number", "k", "kind", "many"]
theorem sc__law_piece : FnScope N__law_piece ["cell"] (defScope s__law_piece) := ⟨rfl, rfl, rfl, by decide +kernel, rfl, by decide +kernel, by decide +kernel⟩
abbrev s__law_text : Stmt := topS 20
abbrev N__law_text : List Str := ["script", "first", "number", "text", "k", "cell"]
theorem sc__law_text : FnScope N__law_text ["script", "first"] (defScope s__law_text) := ⟨rfl, rfl, rfl, by decide +kernel, rfl, by decide +kernel, by decide +kernel⟩
abbrev s__law_advance : Stmt := topS 21
abbrev N__law_advance : List Str := ["char", "scale"]
theorem sc__law_advance : FnScope N__law_advance ["char", "scale"] (defScope s__law_advance) := ⟨rfl, rfl, rfl, by decide +kernel, rfl, by decide +kernel, by decide +kernel⟩
abbrev s__law_extent : Stmt := topS 22
abbrev N__law_extent : List Str := ["text", "scale", "char"]
theorem sc__law_extent : FnScope N__law_extent ["text", "scale"] (defScope s__law_extent) := ⟨rfl, rfl, rfl, by decide +kernel, rfl, by decide +kernel, by decide +kernel⟩
abbrev s__law_room : Stmt := topS 23
abbrev N__law_room : List Str := ["cell", "text", "scale", "number", "kind", "first", "last", "room"]
theorem sc__law_room : FnScope N__law_room ["cell", "text", "scale"] (defScope s__law_room) := ⟨rfl, rfl, rfl, by decide +kernel, rfl, by decide +kernel, by decide +kernel⟩
abbrev s_units : Stmt := topS 3
abbrev N_units : List Str := ["char"]
theorem sc_units : FnScope N_units ["char"] (defScope s_units) := ⟨rfl, rfl, rfl, by decide +kernel, rfl, by decide +kernel, by decide +kernel⟩
abbrev s_advance : Stmt := topS 4
abbrev N_advance : List Str := ["char", "size"]
theorem sc_advance : FnScope N_advance ["char", "size"] (defScope s_advance) := ⟨rfl, rfl, rfl, by decide +kernel, rfl, by decide +kernel, by decide +kernel⟩
abbrev s_offsets : Stmt := topS 5
abbrev N_offsets : List Str := ["string", "size", "sums", "char"]
theorem sc_offsets : FnScope N_offsets ["string", "size"] (defScope s_offsets) := ⟨rfl, rfl, rfl, by decide +kernel, rfl, by decide +kernel, by decide +kernel⟩
abbrev s_paragraphs : Stmt := topS 7
abbrev N_paragraphs : List Str := ["string", "found", "start", "part"]
theorem sc_paragraphs : FnScope N_paragraphs ["string"] (defScope s_paragraphs) := ⟨rfl, rfl, rfl, by decide +kernel, rfl, by decide +kernel, by decide +kernel⟩
abbrev s_break_paragraph : Stmt := topS 9
abbrev N_break_paragraph : List Str := ["parts", "start", "sums", "width", "lines", "first", "last"]
theorem sc_break_paragraph : FnScope N_break_paragraph ["parts", "start", "sums", "width"] (defScope s_break_paragraph) := ⟨rfl, rfl, rfl, by decide +kernel, rfl, by decide +kernel, by decide +kernel⟩
abbrev s_words : Stmt := topS 8
abbrev N_words : List Str := ["string", "start", "end", "found", "begin", "index"]
theorem sc_words : FnScope N_words ["string", "start", "end"] (defScope s_words) := ⟨rfl, rfl, rfl, by decide +kernel, rfl, by decide +kernel, by decide +kernel⟩
abbrev s_break_lines : Stmt := topS 10
abbrev N_break_lines : List Str := ["string", "size", "width", "sums", "lines", "start", "end"]
theorem sc_break_lines : FnScope N_break_lines ["string", "size", "width"] (defScope s_break_lines) := ⟨rfl, rfl, rfl, by decide +kernel, rfl, by decide +kernel, by decide +kernel⟩
abbrev s_ends_paragraph : Stmt := topS 11
abbrev N_ends_paragraph : List Str := ["string", "line", "char"]
theorem sc_ends_paragraph : FnScope N_ends_paragraph ["string", "line"] (defScope s_ends_paragraph) := ⟨rfl, rfl, rfl, by decide +kernel, rfl, by decide +kernel, by decide +kernel⟩
abbrev s_justified : Stmt := topS 12
abbrev N_justified : List Str := ["part", "sums", "rest", "spaces", "share", "more", "places", "seen", "index"]
theorem sc_justified : FnScope N_justified ["part", "sums", "rest"] (defScope s_justified) := ⟨rfl, rfl, rfl, by decide +kernel, rfl, by decide +kernel, by decide +kernel⟩
abbrev s_place_line : Stmt := topS 13
abbrev N_place_line : List Str := ["string", "line", "size", "width", "align", "part", "sums", "rest", "moved", "place"]
theorem sc_place_line : FnScope N_place_line ["string", "line", "size", "width", "align"] (defScope s_place_line) := ⟨rfl, rfl, rfl, by decide +kernel, rfl, by decide +kernel, by decide +kernel⟩
abbrev s__law_is_integer : Stmt := topS 24
abbrev N__law_is_integer : List Str := ["value"]
theorem sc__law_is_integer : FnScope N__law_is_integer ["value"] (defScope s__law_is_integer) := ⟨rfl, rfl, rfl, by decide +kernel, rfl, by decide +kernel, by decide +kernel⟩
abbrev s__law_gains : Stmt := topS 27
abbrev N__law_gains : List Str := ["places", "part", "scale", "gains", "k", "gain"]
theorem sc__law_gains : FnScope N__law_gains ["places", "part", "scale"] (defScope s__law_gains) := ⟨rfl, rfl, rfl, by decide +kernel, rfl, by decide +kernel, by decide +kernel⟩
abbrev s__law_is_even : Stmt := topS 28
abbrev N__law_is_even : List Str := ["gains", "k"]
theorem sc__law_is_even : FnScope N__law_is_even ["gains"] (defScope s__law_is_even) := ⟨rfl, rfl, rfl, by decide +kernel, rfl, by decide +kernel, by decide +kernel⟩
abbrev s__law_is_blank : Stmt := topS 25
abbrev N__law_is_blank : List Str := ["text", "char"]
theorem sc__law_is_blank : FnScope N__law_is_blank ["text"] (defScope s__law_is_blank) := ⟨rfl, rfl, rfl, by decide +kernel, rfl, by decide +kernel, by decide +kernel⟩
abbrev s__law_rest : Stmt := topS 26
abbrev N__law_rest : List Str := ["text", "at", "found"]
theorem sc__law_rest : FnScope N__law_rest ["text", "at"] (defScope s__law_rest) := ⟨rfl, rfl, rfl, by decide +kernel, rfl, by decide +kernel, by decide +kernel⟩
abbrev s_law : Stmt := topS 29
abbrev N_law : List Str := ["script", "text", "number", "scale", "room", "lines", "line", "part", "places", "place", "gains", "due", "kept"]
theorem sc_law : FnScope N_law ["script"] (defScope s_law) := ⟨rfl, rfl, rfl, by decide +kernel, rfl, by decide +kernel, by decide +kernel⟩
/-! ### the functions on data -/
noncomputable section
/-- _law_mixed(cell): slots 0 cell, 1 once, 2 twice -/
def B__law_mixed : SS :=
  (sSeqn (sSet 1 (eOp oMod (eCall cInt (aCons (eOp oAdd (eOp oMulS (eB 0) (eK (.int 48271))) (eK (.int 12345))) aNil)) (eK (.int 2147483647))))
  (sSeqn (sSet 2 (eOp oMod (eCall cInt (aCons (eOp oAdd (eOp oAdd (eOp oMulS (eB 1) (eB 1)) (eOp oMulS (eK (.int 7)) (eB 1))) (eK (.int 3))) aNil)) (eK (.int 2305843009213693951))))
  (sRet (eOp oMod (eCall cInt (aCons (eOp oAdd (eOp oMulS (eB 2) (eK (.int 16807))) (eK (.int 11))) aNil)) (eK (.int 2305843009213693951))))))
def F__law_mixed : List PyData → Option PyData := box (runF 3 .val [.bor] B__law_mixed)
/-- _law_source(cell): slots 0 cell -/
def B__law_source : SS :=
  (sSeqn (sIf (bT (eOp oGe (eB 0) (eOp oPow (eK (.int 10)) (eK (.int 18)))))
    (sRet (eOp oSub (eB 0) (eOp oPow (eK (.int 10)) (eK (.int 18)))))
    sNext)
  (sRet (eCall F__law_mixed (aCons (eB 0) aNil))))
def F__law_source : List PyData → Option PyData := box (runF 1 .val [.bor] B__law_source)
/-- _law_cell(script, k): slots 0 script, 1 k -/
def B__law_cell : SS :=
  (sSeqn (sIf (bT (eOp oLt (eB 1) (eCall cLen (aCons (eS 0) aNil))))
    (sRet (eOp oIx (eS 0) (eV 1)))
    sNext)
  (sRet (eK (.int 0))))
def F__law_cell : List PyData → Option PyData := box (runF 2 .val [.scr, .val] B__law_cell)
/-- _law_chars(): slots 0 chars -/
def B__law_chars : SS :=
  (sSeqn (sSet 0 (eK (.str " !\"#$&'()*+,-./0123456789:;<=>?@ABCDEFGHIJKLMNOPQRSTUVWXYZ[\\]^_`")))
  (sRet (eOp oAdd (eB 0) (eK (.str "abcdefghijklmnopqrstuvwxyz{|}~\n")))))
def F__law_chars : List PyData → Option PyData := box (runF 1 .val [] B__law_chars)
def L__law_piece_1 : SS :=
  (sSeqn (sSet 2 (eOp oAdd (eB 2) (eOp oIx (eB 1) (eOp oMod (eCall cInt (aCons (eB 3) aNil)) (eK (.int 95))))))
  (sSet 3 (eOp oFdiv (eB 3) (eK (.int 95)))))
def L__law_piece_2 : SS :=
  (sSeqn (sSet 2 (eOp oAdd (eB 2) (eOp oIx (eB 1) (eOp oAdd (eK (.int 1)) (eOp oMod (eCall cInt (aCons (eB 3) aNil)) (eK (.int 93)))))))
  (sSet 3 (eOp oFdiv (eB 3) (eK (.int 93)))))
/-- _law_piece(cell): slots 0 cell, 1 chars, 2 piece, 3 number, 4 k, 5 kind, 6 many -/
def B__law_piece : SS :=
  (sSeqn (sSet 1 (eCall F__law_chars aNil))
  (sSeqn (sSet 2 (eK (.str "")))
  (sSeqn (sIf (bT (eOp oGe (eB 0) (eOp oPow (eK (.int 10)) (eK (.int 18)))))
    (sSeqn (sSet 3 (eOp oFdiv (eOp oSub (eB 0) (eOp oPow (eK (.int 10)) (eK (.int 18)))) (eK (.int 8))))
    (sSeqn (sFor (sArgs rng1 (aCons (eOp oMod (eCall cInt (aCons (eOp oSub (eB 0) (eOp oPow (eK (.int 10)) (eK (.int 18)))) aNil)) (eK (.int 8))) aNil)) (gV 4) L__law_piece_1)
    (sRet (eV 2))))
    sNext)
  (sSeqn (sSet 3 (eCall F__law_mixed (aCons (eB 0) aNil)))
  (sSeqn (sSet 5 (eOp oMod (eCall cInt (aCons (eB 3) aNil)) (eK (.int 8))))
  (sSeqn (sIf (bT (eOp oEq (eB 5) (eK (.int 0))))
    (sRet (eK (.str "\n")))
    sNext)
  (sSeqn (sSet 3 (eOp oFdiv (eB 3) (eK (.int 8))))
  (sSeqn (sIf (bT (eOp oLt (eB 5) (eK (.int 3))))
    (sRet (eOp oMulS (eK (.str " ")) (eOp oAdd (eK (.int 1)) (eOp oMod (eCall cInt (aCons (eB 3) aNil)) (eK (.int 3))))))
    sNext)
  (sSeqn (sSet 6 (eOp oAdd (eK (.int 1)) (eOp oMod (eCall cInt (aCons (eB 3) aNil)) (eK (.int 6)))))
  (sSeqn (sSet 3 (eOp oFdiv (eB 3) (eK (.int 6))))
  (sSeqn (sFor (sArgs rng1 (aCons (eV 6) aNil)) (gV 4) L__law_piece_2)
  (sRet (eV 2)))))))))))))
def F__law_piece : List PyData → Option PyData := box (runF 7 .val [.bor] B__law_piece)
def L__law_text_1 : SS :=
  (sSet 3 (eOp oAdd (eB 3) (eCall F__law_piece (aCons (eOp oMod (eCall cInt (aCons (eOp oAdd (eOp oFdiv (eB 2) (eK (.int 12))) (eOp oMulS (eK (.int 7919)) (eB 4))) aNil)) (eOp oPow (eK (.int 10)) (eK (.int 9)))) aNil))))
def L__law_text_2 : SS :=
  (sSet 3 (eOp oAdd (eB 3) (eCall F__law_piece (aCons (eB 5) aNil))))
/-- _law_text(script, first): slots 0 script, 1 first, 2 number, 3 text, 4 k, 5 cell -/
def B__law_text : SS :=
  (sSeqn (sSet 2 (eCall F__law_source (aCons (eCall F__law_cell (aCons (eS 0) (aCons (eV 1) aNil))) aNil)))
  (sSeqn (sSet 3 (eK (.str "")))
  (sSeqn (sFor (sArgs rng1 (aCons (eOp oMod (eCall cInt (aCons (eB 2) aNil)) (eK (.int 12))) aNil)) (gV 4) L__law_text_1)
  (sSeqn (sFor (sSeq (eSl oSlL (eS 0) (oSo (eOp oAdd (eB 1) (eK (.int 1)))) (oSo (eOp oAdd (eB 1) (eK (.int 41)))))) (gV 5) L__law_text_2)
  (sRet (eSl oSl (eOp oMulS (eB 3) (eOp oIx (eLst (aCons (eK (.int 1)) (aCons (eK (.int 1)) (aCons (eK (.int 1)) (aCons (eK (.int 2)) (aCons (eK (.int 7)) (aCons (eK (.int 40)) aNil))))))) (eOp oMod (eCall cInt (aCons (eOp oFdiv (eB 2) (eK (.int 12))) aNil)) (eK (.int 6))))) oNo (oSo (eK (.int 500)))))))))
def F__law_text : List PyData → Option PyData := box (runF 6 .val [.scr, .val] B__law_text)
/-- _law_advance(char, scale): slots 0 char, 1 scale -/
def B__law_advance : SS :=
  (sSeqn (sIf (bT (eOp oEq (eB 0) (eK (.str "\n"))))
    (sRet (eK (.int 0)))
    sNext)
  (sSeqn (sIf (bT (eOp oIn (eB 0) (eK (.str " .,':;!|ijl"))))
    (sRet (eV 1))
    sNext)
  (sSeqn (sIf (bT (eOp oIn (eB 0) (eK (.str "mwMW@"))))
    (sRet (eOp oMulS (eK (.int 3)) (eB 1)))
    sNext)
  (sRet (eOp oMulS (eK (.int 2)) (eB 1))))))
def F__law_advance : List PyData → Option PyData := box (runF 2 .val [.bor, .val] B__law_advance)
/-- _law_extent(text, scale): slots 0 text, 1 scale, 2 char -/
def B__law_extent : SS :=
  (sRet (eCall cSum (aCons (eLc (sSeq (eB 0)) (gV 2) bYes (eCall F__law_advance (aCons (eB 2) (aCons (eV 1) aNil))) [2]) aNil)))
def F__law_extent : List PyData → Option PyData := box (runF 3 .val [.bor, .val] B__law_extent)
/-- _law_room(cell, text, scale): slots 0 cell, 1 text, 2 scale, 3 number, 4 kind, 5 first, 6 last, 7 room -/
def B__law_room : SS :=
  (sSeqn (sSet 3 (eCall F__law_source (aCons (eB 0) aNil)))
  (sSeqn (sSet 4 (eOp oMod (eCall cInt (aCons (eB 3) aNil)) (eK (.int 4))))
  (sSeqn (sSet 3 (eOp oFdiv (eB 3) (eK (.int 4))))
  (sSeqn (sIf (bT (eOp oEq (eB 4) (eK (.int 0))))
    (sRet (eOp oMod (eCall cInt (aCons (eB 3) aNil)) (eK (.int 60))))
    sNext)
  (sSeqn (sSet 5 (eOp oMod (eCall cInt (aCons (eB 3) aNil)) (eOp oAdd (eCall cLen (aCons (eB 1) aNil)) (eK (.int 1)))))
  (sSeqn (sSet 6 (eOp oMod (eCall cInt (aCons (eOp oFdiv (eB 3) (eK (.int 501))) aNil)) (eOp oAdd (eCall cLen (aCons (eB 1) aNil)) (eK (.int 1)))))
  (sSeqn (sSet 7 (eCall F__law_extent (aCons (eSl oSl (eB 1) (oSo (eCall cMin2 (aCons (eB 5) (aCons (eB 6) aNil)))) (oSo (eCall cMax2 (aCons (eB 5) (aCons (eB 6) aNil))))) (aCons (eV 2) aNil))))
  (sSeqn (sIf (bT (eOp oEq (eB 4) (eK (.int 1))))
    (sRet (eV 7))
    sNext)
  (sSeqn (sIf (bT (eOp oEq (eB 4) (eK (.int 2))))
    (sRet (eCall cMax2 (aCons (eK (.int 0)) (aCons (eOp oSub (eB 7) (eK (.int 1))) aNil))))
    sNext)
  (sRet (eOp oMod (eCall cInt (aCons (eB 3) aNil)) (eOp oAdd (eK (.int 1)) (eOp oMulS (eK (.int 2)) (eCall F__law_extent (aCons (eB 1) (aCons (eV 2) aNil))))))))))))))))
def F__law_room : List PyData → Option PyData := box (runF 8 .val [.bor, .bor, .val] B__law_room)
/-- units(char): slots 0 char -/
def B_units : SS :=
  (sSeqn (sIf (bT (eOp oEq (eB 0) (eK (.str "\n"))))
    (sRet (eK (.int 0)))
    sNext)
  (sSeqn (sIf (bT (eOp oIn (eB 0) (eK (.str " .,':;!|ijl"))))
    (sRet (eK (.int 1)))
    sNext)
  (sSeqn (sIf (bT (eOp oIn (eB 0) (eK (.str "mwMW@"))))
    (sRet (eK (.int 3)))
    sNext)
  (sRet (eK (.int 2))))))
def F_units : List PyData → Option PyData := box (runF 1 .val [.bor] B_units)
/-- advance(char, size): slots 0 char, 1 size -/
def B_advance : SS :=
  (sRet (eOp oMulS (eCall F_units (aCons (eB 0) aNil)) (eB 1)))
def F_advance : List PyData → Option PyData := box (runF 2 .val [.bor, .bor] B_advance)
def L_offsets_1 : SS :=
  (sMut fApp 2 (aCons (eOp oAdd (eOp oIx (eB 2) (eUn oNeg (eK (.int 1)))) (eCall F_advance (aCons (eB 3) (aCons (eB 1) aNil)))) aNil))
/-- offsets(string, size): slots 0 string, 1 size, 2 sums, 3 char -/
def B_offsets : SS :=
  (sSeqn (sOwn 2 (eLst (aCons (eK (.int 0)) aNil)))
  (sSeqn (sFor (sSeq (eP 0)) (gV 3) L_offsets_1)
  (sRetOwn 2)))
def F_offsets : List PyData → Option PyData := box (runF 4 .new [.bor, .bor] B_offsets)
def L_paragraphs_1 : SS :=
  (sSeqn (sMut fApp 1 (aCons (eTup (aCons (eV 2) (aCons (eOp oAdd (eB 2) (eCall cLen (aCons (eB 3) aNil))) aNil))) aNil))
  (sAug 2 addI (eOp oAdd (eCall cLen (aCons (eB 3) aNil)) (eK (.int 1)))))
/-- paragraphs(string): slots 0 string, 1 found, 2 start, 3 part -/
def B_paragraphs : SS :=
  (sSeqn (sOwn 1 (eLst aNil))
  (sSeqn (sSet 2 (eK (.int 0)))
  (sSeqn (sFor (sSeq (eOp oSplit (eB 0) (eK (.str "\n")))) (gV 3) L_paragraphs_1)
  (sRetOwn 1))))
def F_paragraphs : List PyData → Option PyData := box (runF 4 .new [.bor] B_paragraphs)
def L_break_paragraph_1 : SS :=
  (sIf (bAnd (bV (eB 4)) (bT (eOp oLe (eOp oSub (eOp oIx (eB 2) (eB 6)) (eOp oIx (eB 2) (eOp oIx (eOp oIx (eB 4) (eUn oNeg (eK (.int 1)))) (eK (.int 0))))) (eB 3))))
    (sPut 4 (eTup (aCons (eOp oIx (eOp oIx (eB 4) (eUn oNeg (eK (.int 1)))) (eK (.int 0))) (aCons (eV 6) aNil))) (eUn oNeg (eK (.int 1))))
    (sMut fApp 4 (aCons (eTup (aCons (eV 5) (aCons (eV 6) aNil))) aNil)))
/-- break_paragraph(parts, start, sums, width): slots 0 parts, 1 start, 2 sums, 3 width, 4 lines, 5 first, 6 last -/
def B_break_paragraph : SS :=
  (sSeqn (sOwn 4 (eLst aNil))
  (sSeqn (sFor (sSeq (eP 0)) (gT 2 (gsCons (gV 5) (gsCons (gV 6) gsNil))) L_break_paragraph_1)
  (sSeqn (sIf (bNot (bV (eB 4)))
    (sMut fApp 4 (aCons (eTup (aCons (eV 1) (aCons (eV 1) aNil))) aNil))
    sNext)
  (sRetOwn 4))))
def F_break_paragraph : List PyData → Option PyData := box (runF 7 .new [.bor, .val, .bor, .bor] B_break_paragraph)
def L_words_1 : SS :=
  (sIf (bOr (bT (eOp oEq (eOp oIx (eB 0) (eB 5)) (eK (.str " ")))) (bT (eOp oEq (eOp oIx (eB 0) (eB 5)) (eK (.str "\n")))))
    (sSeqn (sIf (bT (eOp oNotN (eB 4) (eK (.none))))
      (sMut fApp 3 (aCons (eTup (aCons (eV 4) (aCons (eV 5) aNil))) aNil))
      sNext)
    (sSet 4 (eK (.none))))
    (sIf (bT (eOp oIsN (eB 4) (eK (.none))))
      (sSet 4 (eV 5))
      sNext))
/-- words(string, start, end): slots 0 string, 1 start, 2 end, 3 found, 4 begin, 5 index -/
def B_words : SS :=
  (sSeqn (sOwn 3 (eLst aNil))
  (sSeqn (sSet 4 (eK (.none)))
  (sSeqn (sFor (sArgs rng2 (aCons (eV 1) (aCons (eV 2) aNil))) (gV 5) L_words_1)
  (sSeqn (sIf (bT (eOp oNotN (eB 4) (eK (.none))))
    (sMut fApp 3 (aCons (eTup (aCons (eV 4) (aCons (eV 2) aNil))) aNil))
    sNext)
  (sRetOwn 3)))))
def F_words : List PyData → Option PyData := box (runF 6 .new [.bor, .val, .val] B_words)
def L_break_lines_1 : SS :=
  (sMut fExt 4 (aCons (eCall F_break_paragraph (aCons (eCall F_words (aCons (eB 0) (aCons (eV 5) (aCons (eV 6) aNil)))) (aCons (eV 5) (aCons (eB 3) (aCons (eB 2) aNil))))) aNil))
/-- break_lines(string, size, width): slots 0 string, 1 size, 2 width, 3 sums, 4 lines, 5 start, 6 end -/
def B_break_lines : SS :=
  (sSeqn (sSet 3 (eCall F_offsets (aCons (eB 0) (aCons (eB 1) aNil))))
  (sSeqn (sOwn 4 (eLst aNil))
  (sSeqn (sFor (sSeq (eCall F_paragraphs (aCons (eB 0) aNil))) (gT 2 (gsCons (gV 5) (gsCons (gV 6) gsNil))) L_break_lines_1)
  (sRetOwn 4))))
def F_break_lines : List PyData → Option PyData := box (runF 7 .new [.bor, .bor, .bor] B_break_lines)
def L_ends_paragraph_1 : SS :=
  (sSeqn (sIf (bT (eOp oEq (eB 2) (eK (.str "\n"))))
    (sRet (eK (.bool true)))
    sNext)
  (sIf (bT (eOp oNe (eB 2) (eK (.str " "))))
    (sRet (eK (.bool false)))
    sNext))
/-- ends_paragraph(string, line): slots 0 string, 1 line, 2 char -/
def B_ends_paragraph : SS :=
  (sSeqn (sFor (sSeq (eSl oSl (eB 0) (oSo (eOp oIx (eB 1) (eK (.int 1)))) oNo)) (gV 2) L_ends_paragraph_1)
  (sRet (eK (.bool true))))
def F_ends_paragraph : List PyData → Option PyData := box (runF 3 .val [.bor, .bor] B_ends_paragraph)
def L_justified_1 : SS :=
  (sSeqn (sIf (bT (eOp oEq (eOp oIx (eB 0) (eB 8)) (eK (.str " "))))
    (sAug 7 addI (eK (.int 1)))
    sNext)
  (sMut fApp 6 (aCons (eOp oAdd (eOp oAdd (eOp oIx (eB 1) (eOp oAdd (eB 8) (eK (.int 1)))) (eOp oMulS (eB 7) (eB 4))) (eCall cMin2 (aCons (eB 7) (aCons (eB 5) aNil)))) aNil)))
/-- justified(part, sums, rest): slots 0 part, 1 sums, 2 rest, 3 spaces, 4 share, 5 more, 6 places, 7 seen, 8 index -/
def B_justified : SS :=
  (sSeqn (sSet 3 (eOp oCount (eB 0) (eK (.str " "))))
  (sSeqn (sIf (bT (eOp oEq (eB 3) (eK (.int 0))))
    (sRetOwn 1)
    sNext)
  (sSeqn (sSet 4 (eOp oFdiv (eB 2) (eB 3)))
  (sSeqn (sSet 5 (eOp oSub (eB 2) (eOp oMulS (eB 3) (eB 4))))
  (sSeqn (sOwn 6 (eLst (aCons (eK (.int 0)) aNil)))
  (sSeqn (sSet 7 (eK (.int 0)))
  (sSeqn (sFor (sArgs rng1 (aCons (eCall cLen (aCons (eB 0) aNil)) aNil)) (gV 8) L_justified_1)
  (sRetOwn 6))))))))
def F_justified : List PyData → Option PyData := box (runM 9 .new [.val, .new, .val] B_justified)
/-- place_line(string, line, size, width, align): slots 0 string, 1 line, 2 size, 3 width, 4 align, 5 part, 6 sums, 7 rest, 8 moved, 9 place -/
def B_place_line : SS :=
  (sSeqn (sSet 5 (eSl oSl (eB 0) (oSo (eOp oIx (eB 1) (eK (.int 0)))) (oSo (eOp oIx (eB 1) (eK (.int 1))))))
  (sSeqn (sOwn 6 (eCall F_offsets (aCons (eB 5) (aCons (eB 2) aNil))))
  (sSeqn (sSet 7 (eCall cMax2 (aCons (eK (.int 0)) (aCons (eOp oSub (eB 3) (eOp oIx (eB 6) (eUn oNeg (eK (.int 1))))) aNil))))
  (sSeqn (sIf (bAnd (bT (eOp oEq (eB 4) (eK (.str "full")))) (bNot (bV (eCall F_ends_paragraph (aCons (eB 0) (aCons (eB 1) aNil))))))
    (sRetMov F_justified (aCons (eV 5) (aCons (eM 6) (aCons (eV 7) aNil))))
    sNext)
  (sSeqn (sSet 8 (eK (.int 0)))
  (sSeqn (sIf (bT (eOp oEq (eB 4) (eK (.str "right"))))
    (sSet 8 (eV 7))
    (sIf (bT (eOp oEq (eB 4) (eK (.str "center"))))
      (sSet 8 (eOp oFdiv (eB 7) (eK (.int 2))))
      sNext))
  (sRet (eLc (sSeq (eB 6)) (gV 9) bYes (eOp oAdd (eB 9) (eB 8)) [9]))))))))
def F_place_line : List PyData → Option PyData := box (runF 10 .new [.bor, .bor, .bor, .bor, .bor] B_place_line)
/-- _law_is_integer(value): slots 0 value -/
def B__law_is_integer : SS :=
  (sRet (eAnd (eIs "int" (eB 0)) (eNot (eIs "bool" (eB 0)))))
def F__law_is_integer : List PyData → Option PyData := box (runF 1 .val [.bor] B__law_is_integer)
def L__law_gains_1 : SS :=
  (sSeqn (sSet 5 (eOp oSub (eOp oSub (eOp oIx (eB 0) (eOp oAdd (eB 4) (eK (.int 1)))) (eOp oIx (eB 0) (eB 4))) (eCall F__law_advance (aCons (eOp oIx (eB 1) (eB 4)) (aCons (eV 2) aNil)))))
  (sIf (bT (eOp oEq (eOp oIx (eB 1) (eB 4)) (eK (.str " "))))
    (sMut fApp 3 (aCons (eV 5) aNil))
    (sIf (bT (eOp oNe (eB 5) (eK (.int 0))))
      (sRet (eK (.none)))
      sNext)))
/-- _law_gains(places, part, scale): slots 0 places, 1 part, 2 scale, 3 gains, 4 k, 5 gain -/
def B__law_gains : SS :=
  (sSeqn (sOwn 3 (eLst aNil))
  (sSeqn (sFor (sArgs rng1 (aCons (eCall cLen (aCons (eB 1) aNil)) aNil)) (gV 4) L__law_gains_1)
  (sFz 3 (sRet (eV 3)))))
def F__law_gains : List PyData → Option PyData := box (runF 6 .val [.bor, .bor, .val] B__law_gains)
def L__law_is_even_1 : SS :=
  (sIf (bT (eOp oGt (eOp oIx (eB 0) (eB 1)) (eOp oIx (eB 0) (eOp oSub (eB 1) (eK (.int 1))))))
    (sRet (eK (.bool false)))
    sNext)
/-- _law_is_even(gains): slots 0 gains, 1 k -/
def B__law_is_even : SS :=
  (sSeqn (sFor (sArgs rng2 (aCons (eK (.int 1)) (aCons (eCall cLen (aCons (eB 0) aNil)) aNil))) (gV 1) L__law_is_even_1)
  (sRet (eOr (eOp oEq (eCall cLen (aCons (eB 0) aNil)) (eK (.int 0))) (eAnd (eOp oGe (eOp oIx (eB 0) (eUn oNeg (eK (.int 1)))) (eK (.int 0))) (eOp oLe (eOp oIx (eB 0) (eK (.int 0))) (eOp oAdd (eOp oIx (eB 0) (eUn oNeg (eK (.int 1)))) (eK (.int 1))))))))
def F__law_is_even : List PyData → Option PyData := box (runF 2 .val [.bor] B__law_is_even)
def L__law_is_blank_1 : SS :=
  (sIf (bAnd (bT (eOp oNe (eB 1) (eK (.str " ")))) (bT (eOp oNe (eB 1) (eK (.str "\n")))))
    (sRet (eK (.bool false)))
    sNext)
/-- _law_is_blank(text): slots 0 text, 1 char -/
def B__law_is_blank : SS :=
  (sSeqn (sFor (sSeq (eP 0)) (gV 1) L__law_is_blank_1)
  (sRet (eK (.bool true))))
def F__law_is_blank : List PyData → Option PyData := box (runF 2 .val [.bor] B__law_is_blank)
/-- _law_rest(text, at): slots 0 text, 1 at, 2 found -/
def B__law_rest : SS :=
  (sSeqn (sSet 2 (eBm oFind3 (eB 0) (aCons (eK (.str "\n")) (aCons (eV 1) aNil))))
  (sSeqn (sIf (bT (eOp oLt (eB 2) (eK (.int 0))))
    (sRet (eSl oSl (eB 0) (oSo (eV 1)) oNo))
    sNext)
  (sRet (eSl oSl (eB 0) (oSo (eV 1)) (oSo (eV 2))))))
def F__law_rest : List PyData → Option PyData := box (runF 3 .val [.bor, .val] B__law_rest)
def L_law_1 : SS :=
  (sIf (bNot (bV (eCall F__law_is_integer (aCons (eB 9) aNil))))
    (sRet (eK (.bool false)))
    sNext)
def L_law_2 : SS :=
  (sSeqn (sSet 7 (eSl oSl (eB 1) (oSo (eOp oIx (eB 6) (eK (.int 0)))) (oSo (eOp oIx (eB 6) (eK (.int 1))))))
  (sSeqn (sOwn 8 (eCallK F_place_line (aCons (eB 1) (aCons (eB 6) aNil)) (aCons (eB 3) (aCons (eB 4) (aCons (eK (.str "full")) aNil))) []))
  (sSeqn (sIf (bOr (bNot (bV (eIs "list" (eB 8)))) (bT (eOp oNe (eCall cLen (aCons (eB 8) aNil)) (eOp oAdd (eCall cLen (aCons (eB 7) aNil)) (eK (.int 1))))))
    (sRet (eK (.bool false)))
    sNext)
  (sSeqn (sForOwn 8 (gV 9) L_law_1)
  (sSeqn (sSet 10 (eCall F__law_gains (aCons (eB 8) (aCons (eB 7) (aCons (eV 3) aNil)))))
  (sSeqn (sIf (bOr (bT (eOp oIsN (eB 10) (eK (.none)))) (bOr (bT (eOp oNe (eOp oIx (eB 8) (eK (.int 0))) (eK (.int 0)))) (bNot (bV (eCall F__law_is_even (aCons (eB 10) aNil))))))
    (sRet (eK (.bool false)))
    sNext)
  (sSeqn (sSet 11 (eCall F__law_extent (aCons (eB 7) (aCons (eV 3) aNil))))
  (sSeqn (sIf (bAnd (bNot (bV (eCall F__law_is_blank (aCons (eCall F__law_rest (aCons (eB 1) (aCons (eOp oIx (eB 6) (eK (.int 1))) aNil))) aNil)))) (bT (eOp oIn (eK (.str " ")) (eB 7))))
    (sSet 11 (eCall cMax2 (aCons (eB 11) (aCons (eB 4) aNil))))
    sNext)
  (sSeqn (sIf (bT (eOp oNe (eOp oIx (eB 8) (eUn oNeg (eK (.int 1)))) (eB 11)))
    (sRet (eK (.bool false)))
    sNext)
  (sSeqn (sSet 12 (eCall cList (aCons (eB 8) aNil)))
  (sSeqn (sPut 8 (eUn oNeg (eK (.int 7))) (eK (.int 0)))
  (sIf (bT (eOp oNe (eCallK F_place_line (aCons (eB 1) (aCons (eB 6) aNil)) (aCons (eB 3) (aCons (eB 4) (aCons (eK (.str "full")) aNil))) []) (eB 12)))
    (sRet (eK (.bool false)))
    sNext))))))))))))
/-- law(script): slots 0 script, 1 text, 2 number, 3 scale, 4 room, 5 lines, 6 line, 7 part, 8 places, 9 place, 10 gains, 11 due, 12 kept -/
def B_law : SS :=
  (sSeqn (sSet 1 (eCall F__law_text (aCons (eS 0) (aCons (eK (.int 2)) aNil))))
  (sSeqn (sSet 2 (eCall F__law_source (aCons (eCall F__law_cell (aCons (eS 0) (aCons (eK (.int 0)) aNil))) aNil)))
  (sSeqn (sSet 3 (eOp oAdd (eK (.int 1)) (eOp oMod (eCall cInt (aCons (eB 2) aNil)) (eK (.int 20)))))
  (sSeqn (sSet 4 (eCall F__law_room (aCons (eCall F__law_cell (aCons (eS 0) (aCons (eK (.int 1)) aNil))) (aCons (eB 1) (aCons (eV 3) aNil)))))
  (sSeqn (sSet 5 (eCall F_break_lines (aCons (eB 1) (aCons (eB 3) (aCons (eB 4) aNil)))))
  (sSeqn (sIf (bOr (bNot (bV (eIs "list" (eB 5)))) (bT (eOp oEq (eCall cLen (aCons (eB 5) aNil)) (eK (.int 0)))))
    (sRet (eK (.bool false)))
    sNext)
  (sSeqn (sIf (bT (eOp oEq (eOp oMod (eCall cInt (aCons (eOp oFdiv (eB 2) (eK (.int 60))) aNil)) (eK (.int 3))) (eK (.int 0))))
    (sSet 4 (eOp oMod (eCall cInt (aCons (eOp oFdiv (eB 2) (eK (.int 180))) aNil)) (eOp oIx (eLst (aCons (eK (.int 300)) (aCons (eK (.int 5000)) aNil))) (eOp oMod (eCall cInt (aCons (eOp oFdiv (eB 2) (eK (.int 900000))) aNil)) (eK (.int 2))))))
    sNext)
  (sSeqn (sFor (sSeq (eV 5)) (gV 6) L_law_2)
  (sRet (eK (.bool true)))))))))))
def F_law : List PyData → Option PyData := box (runF 13 .val [.scr] B_law)
end
/-! ### the walks -/
section
variable {P : Program} {w : World} {K : PySem.W.Frag} {mg : Str → Option Value} {base : Heap}
theorem ok__law_mixed {f : Addr} {fd : FuncData} (F : Fun K "_law_mixed" "_law_mixed" s__law_mixed f fd) (z_int : mg "int" = none) :
    FnOk P w K mg base CX0 1 f fd ["cell"] (spD K .val [.bor] F__law_mixed) :=
  fn_okB (b := B__law_mixed) F sc__law_mixed rfl rfl (am_bor am_nil) (fun cdv A outer s H E hr =>
    (b_cons (s_set 1 sc__law_mixed.nd (d_op op_mod (opf_intIf _ _) (d_b (d_callTy call_int1 cf_int bor1 (by rfl) z_int PyProof.Rows.boot_int (a_cons (d_b (d_op op_addAll opf_addAll (d_b (d_op op_mulAll opf_mulAll (d_varb 0) (d_b d_int))) (d_b d_int))) a_nil))) (d_b d_int)))
    (b_cons (s_set 2 sc__law_mixed.nd (d_op op_mod (opf_intIf _ _) (d_b (d_callTy call_int1 cf_int bor1 (by rfl) z_int PyProof.Rows.boot_int (a_cons (d_b (d_op op_addAll opf_addAll (d_b (d_op op_addAll opf_addAll (d_b (d_op op_mulAll opf_mulAll (d_varb 1) (d_varb 1))) (d_b (d_op op_mulAll opf_mulAll (d_b d_int) (d_varb 1))))) (d_b d_int))) a_nil))) (d_b d_int)))
    (b_one (s_ret (d_op op_mod (opf_intIf _ _) (d_b (d_callTy call_int1 cf_int bor1 (by rfl) z_int PyProof.Rows.boot_int (a_cons (d_b (d_op op_addAll opf_addAll (d_b (d_op op_mulAll opf_mulAll (d_varb 2) (d_b d_int))) (d_b d_int))) a_nil))) (d_b d_int)))))))
theorem ok__law_source {f : Addr} {fd : FuncData} (F : Fun K "_law_source" "_law_source" s__law_source f fd) (C__law_mixed : Fn1 P w K mg base "_law_mixed" ["cell"] 1 .val [.bor] F__law_mixed) :
    FnOk P w K mg base CX0 2 f fd ["cell"] (spD K .val [.bor] F__law_source) :=
  fn_okB (b := B__law_source) F sc__law_source rfl rfl (am_bor am_nil) (fun cdv A outer s H E hr =>
    (b_cons (s_if (t_cmp op_ge (opf_cmpI _) (d_varb 0) (d_b (d_op op_pow (opf_intIf _ _) (d_b d_int) (d_b d_int))) (nomark _))
      (b_one (s_ret (d_op op_sub opf_sub (d_varb 0) (d_b (d_op op_pow (opf_intIf _ _) (d_b d_int) (d_b d_int))))))
      b_nil)
    (b_one (s_ret (d_fn C__law_mixed (hr.mono (by decide)) (a_cons (d_varb 0) a_nil) (am_bor am_nil))))))
theorem ok__law_cell {f : Addr} {fd : FuncData} (F : Fun K "_law_cell" "_law_cell" s__law_cell f fd) (z_len : mg "len" = none) :
    FnOk P w K mg base CX0 1 f fd ["script", "k"] (spD K .val [.scr, .val] F__law_cell) :=
  fn_okB (b := B__law_cell) F sc__law_cell rfl rfl (am_scr (am_val am_nil)) (fun cdv A outer s H E hr =>
    (b_cons (s_if (t_cmp op_lt (opf_cmpI _) (d_varb 1) (d_b (d_lenS (d_vars 0) z_len)) (nomark _))
      (b_one (s_ret (d_ixS (d_vars 0) (d_var 1))))
      b_nil)
    (b_one (s_ret d_int))))
theorem ok__law_chars {f : Addr} {fd : FuncData} (F : Fun K "_law_chars" "_law_chars" s__law_chars f fd) :
    FnOk P w K mg base CX0 1 f fd [] (spD K .val [] F__law_chars) :=
  fn_okB (b := B__law_chars) F sc__law_chars rfl rfl am_nil (fun cdv A outer s H E hr =>
    (b_cons (s_set 0 sc__law_chars.nd d_str)
    (b_one (s_ret (d_op op_addAll opf_addAll (d_varb 0) (d_b d_str))))))
theorem ok__law_piece {f : Addr} {fd : FuncData} (F : Fun K "_law_piece" "_law_piece" s__law_piece f fd) (C__law_chars : Fn1 P w K mg base "_law_chars" [] 1 .val [] F__law_chars) (C__law_mixed : Fn1 P w K mg base "_law_mixed" ["cell"] 1 .val [.bor] F__law_mixed) (z_int : mg "int" = none) (z_range : mg "range" = none) :
    FnOk P w K mg base CX0 2 f fd ["cell"] (spD K .val [.bor] F__law_piece) :=
  fn_okB (b := B__law_piece) F sc__law_piece rfl rfl (am_bor am_nil) (fun cdv A outer s H E hr =>
    (b_cons (s_set 1 sc__law_piece.nd (d_fn0 C__law_chars (hr.mono (by decide))))
    (b_cons (s_set 2 sc__law_piece.nd d_str)
    (b_cons (s_if (t_cmp op_ge (opf_cmpI _) (d_varb 0) (d_b (d_op op_pow (opf_intIf _ _) (d_b d_int) (d_b d_int))) (nomark _))
      (b_cons (s_set 3 sc__law_piece.nd (d_op op_fdivW opf_fdiv (d_b (d_op op_sub opf_sub (d_varb 0) (d_b (d_op op_pow (opf_intIf _ _) (d_b d_int) (d_b d_int))))) (d_b d_int)))
      (b_cons (s_for PassesOwn.never rfl (i_range1 (by rfl) z_range (a_cons (d_op op_mod (opf_intIf _ _) (d_b (d_callTy call_int1 cf_int bor1 (by rfl) z_int PyProof.Rows.boot_int (a_cons (d_b (d_op op_sub opf_sub (d_varb 0) (d_b (d_op op_pow (opf_intIf _ _) (d_b d_int) (d_b d_int))))) a_nil))) (d_b d_int)) a_nil)) (g_name 4 sc__law_piece.nd)
        (b_cons (s_set 2 sc__law_piece.nd (d_op op_addAll opf_addAll (d_varb 2) (d_b (d_ix (d_varb 1) (d_b (d_op op_mod (opf_intIf _ _) (d_b (d_callTy call_int1 cf_int bor1 (by rfl) z_int PyProof.Rows.boot_int (a_cons (d_varb 3) a_nil))) (d_b d_int)))))))
        (b_one (s_set 3 sc__law_piece.nd (d_op op_fdivW opf_fdiv (d_varb 3) (d_b d_int))))))
      (b_one (s_ret (d_var 2)))))
      b_nil)
    (b_cons (s_set 3 sc__law_piece.nd (d_fn C__law_mixed (hr.mono (by decide)) (a_cons (d_varb 0) a_nil) (am_bor am_nil)))
    (b_cons (s_set 5 sc__law_piece.nd (d_op op_mod (opf_intIf _ _) (d_b (d_callTy call_int1 cf_int bor1 (by rfl) z_int PyProof.Rows.boot_int (a_cons (d_varb 3) a_nil))) (d_b d_int)))
    (b_cons (s_if (t_cmp (op_eqD hr.units) opf_eq (d_varb 5) (d_b d_int) (nomark _))
      (b_one (s_ret d_str))
      b_nil)
    (b_cons (s_set 3 sc__law_piece.nd (d_op op_fdivW opf_fdiv (d_varb 3) (d_b d_int)))
    (b_cons (s_if (t_cmp op_lt (opf_cmpI _) (d_varb 5) (d_b d_int) (nomark _))
      (b_one (s_ret (d_op op_mulAll opf_mulAll (d_b d_str) (d_b (d_op op_addAll opf_addAll (d_b d_int) (d_b (d_op op_mod (opf_intIf _ _) (d_b (d_callTy call_int1 cf_int bor1 (by rfl) z_int PyProof.Rows.boot_int (a_cons (d_varb 3) a_nil))) (d_b d_int))))))))
      b_nil)
    (b_cons (s_set 6 sc__law_piece.nd (d_op op_addAll opf_addAll (d_b d_int) (d_b (d_op op_mod (opf_intIf _ _) (d_b (d_callTy call_int1 cf_int bor1 (by rfl) z_int PyProof.Rows.boot_int (a_cons (d_varb 3) a_nil))) (d_b d_int)))))
    (b_cons (s_set 3 sc__law_piece.nd (d_op op_fdivW opf_fdiv (d_varb 3) (d_b d_int)))
    (b_cons (s_for PassesOwn.never rfl (i_range1 (by rfl) z_range (a_cons (d_var 6) a_nil)) (g_name 4 sc__law_piece.nd)
      (b_cons (s_set 2 sc__law_piece.nd (d_op op_addAll opf_addAll (d_varb 2) (d_b (d_ix (d_varb 1) (d_b (d_op op_addAll opf_addAll (d_b d_int) (d_b (d_op op_mod (opf_intIf _ _) (d_b (d_callTy call_int1 cf_int bor1 (by rfl) z_int PyProof.Rows.boot_int (a_cons (d_varb 3) a_nil))) (d_b d_int)))))))))
      (b_one (s_set 3 sc__law_piece.nd (d_op op_fdivW opf_fdiv (d_varb 3) (d_b d_int))))))
    (b_one (s_ret (d_var 2)))))))))))))))
theorem ok__law_text {f : Addr} {fd : FuncData} (F : Fun K "_law_text" "_law_text" s__law_text f fd) (C__law_source : Fn1 P w K mg base "_law_source" ["cell"] 2 .val [.bor] F__law_source) (C__law_cell : Fn1 P w K mg base "_law_cell" ["script", "k"] 1 .val [.scr, .val] F__law_cell) (C__law_piece : Fn1 P w K mg base "_law_piece" ["cell"] 2 .val [.bor] F__law_piece) (z_int : mg "int" = none) (z_range : mg "range" = none) :
    FnOk P w K mg base CX0 3 f fd ["script", "first"] (spD K .val [.scr, .val] F__law_text) :=
  fn_okB (b := B__law_text) F sc__law_text rfl rfl (am_scr (am_val am_nil)) (fun cdv A outer s H E hr =>
    (b_cons (s_set 2 sc__law_text.nd (d_fn C__law_source (hr.mono (by decide)) (a_cons (d_b (d_fn C__law_cell (hr.mono (by decide)) (a_cons (d_vars 0) (a_cons (d_var 1) a_nil)) (am_scr (am_val am_nil)))) a_nil) (am_bor am_nil)))
    (b_cons (s_set 3 sc__law_text.nd d_str)
    (b_cons (s_for PassesOwn.never rfl (i_range1 (by rfl) z_range (a_cons (d_op op_mod (opf_intIf _ _) (d_b (d_callTy call_int1 cf_int bor1 (by rfl) z_int PyProof.Rows.boot_int (a_cons (d_varb 2) a_nil))) (d_b d_int)) a_nil)) (g_name 4 sc__law_text.nd)
      (b_one (s_set 3 sc__law_text.nd (d_op op_addAll opf_addAll (d_varb 3) (d_b (d_fn C__law_piece (hr.mono (by decide)) (a_cons (d_b (d_op op_mod (opf_intIf _ _) (d_b (d_callTy call_int1 cf_int bor1 (by rfl) z_int PyProof.Rows.boot_int (a_cons (d_b (d_op op_addAll opf_addAll (d_b (d_op op_fdivW opf_fdiv (d_varb 2) (d_b d_int))) (d_b (d_op op_mulAll opf_mulAll (d_b d_int) (d_varb 4))))) a_nil))) (d_b (d_op op_pow (opf_intIf _ _) (d_b d_int) (d_b d_int))))) a_nil) (am_bor am_nil)))))))
    (b_cons (s_for PassesOwn.never rfl (i_val (d_fz (d_sliceS (d_vars 0) (o_so (d_op op_addAll opf_addAll (d_varb 1) (d_b d_int))) (o_so (d_op op_addAll opf_addAll (d_varb 1) (d_b d_int)))))) (g_name 5 sc__law_text.nd)
      (b_one (s_set 3 sc__law_text.nd (d_op op_addAll opf_addAll (d_varb 3) (d_b (d_fn C__law_piece (hr.mono (by decide)) (a_cons (d_varb 5) a_nil) (am_bor am_nil)))))))
    (b_one (s_ret (d_slice (d_b (d_op op_mulAll opf_mulAll (d_varb 3) (d_b (d_ix (d_b (d_lst (a_cons d_int (a_cons d_int (a_cons d_int (a_cons d_int (a_cons d_int (a_cons d_int a_nil)))))) (v_cons (v_cons (v_cons (v_cons (v_cons (v_cons v_nil)))))))) (d_b (d_op op_mod (opf_intIf _ _) (d_b (d_callTy call_int1 cf_int bor1 (by rfl) z_int PyProof.Rows.boot_int (a_cons (d_b (d_op op_fdivW opf_fdiv (d_varb 2) (d_b d_int))) a_nil))) (d_b d_int))))))) o_no (o_so d_int)))))))))
theorem ok__law_advance {f : Addr} {fd : FuncData} (F : Fun K "_law_advance" "_law_advance" s__law_advance f fd) :
    FnOk P w K mg base CX0 1 f fd ["char", "scale"] (spD K .val [.bor, .val] F__law_advance) :=
  fn_okB (b := B__law_advance) F sc__law_advance rfl rfl (am_bor (am_val am_nil)) (fun cdv A outer s H E hr =>
    (b_cons (s_if (t_cmp (op_eqD hr.units) opf_eq (d_varb 0) (d_b d_str) (nomark _))
      (b_one (s_ret d_int))
      b_nil)
    (b_cons (s_if (t_cmp (op_inA (units65 hr)) opf_in (d_varb 0) (d_b d_str) (by with_unfolding_all rfl))
      (b_one (s_ret (d_var 1)))
      b_nil)
    (b_cons (s_if (t_cmp (op_inA (units65 hr)) opf_in (d_varb 0) (d_b d_str) (by with_unfolding_all rfl))
      (b_one (s_ret (d_op op_mulAll opf_mulAll (d_b d_int) (d_varb 1))))
      b_nil)
    (b_one (s_ret (d_op op_mulAll opf_mulAll (d_b d_int) (d_varb 1))))))))
theorem ok__law_extent {f : Addr} {fd : FuncData} (F : Fun K "_law_extent" "_law_extent" s__law_extent f fd) (C__law_advance : Fn1 P w K mg base "_law_advance" ["char", "scale"] 1 .val [.bor, .val] F__law_advance) (z_sum : mg "sum" = none) :
    FnOk P w K mg base CX0 2 f fd ["text", "scale"] (spD K .val [.bor, .val] F__law_extent) :=
  fn_okB (b := B__law_extent) F sc__law_extent rfl rfl (am_bor (am_val am_nil)) (fun cdv A outer s H E hr =>
    (b_one (s_ret (d_callB (cr_sum rfl) cf_sum bor1 (by rfl) z_sum PyProof.Rows.boot_sum (a_cons (d_b (d_lc rfl sc__law_extent.nd rfl (i_bor (d_varb 0)) (blkOk_by (N := N__law_extent) (sc := defScope s__law_extent) (own := [("char", 2)]) (by decide +kernel)) (fun _ _ _ _ _ => (gw_name 2 sc__law_extent.nd)) (fun _ _ _ _ _ => ts_nil) (fun _ _ _ _ _ => (d_fn C__law_advance (hr.mono (by decide)) (a_cons (d_varb 2) (a_cons (d_var 1) a_nil)) (am_bor (am_val am_nil)))))) a_nil)))))
theorem ok__law_room {f : Addr} {fd : FuncData} (F : Fun K "_law_room" "_law_room" s__law_room f fd) (C__law_source : Fn1 P w K mg base "_law_source" ["cell"] 2 .val [.bor] F__law_source) (C__law_extent : Fn1 P w K mg base "_law_extent" ["text", "scale"] 2 .val [.bor, .val] F__law_extent) (z_int : mg "int" = none) (z_len : mg "len" = none) (z_max : mg "max" = none) (z_min : mg "min" = none) :
    FnOk P w K mg base CX0 3 f fd ["cell", "text", "scale"] (spD K .val [.bor, .bor, .val] F__law_room) :=
  fn_okB (b := B__law_room) F sc__law_room rfl rfl (am_bor (am_bor (am_val am_nil))) (fun cdv A outer s H E hr =>
    (b_cons (s_set 3 sc__law_room.nd (d_fn C__law_source (hr.mono (by decide)) (a_cons (d_varb 0) a_nil) (am_bor am_nil)))
    (b_cons (s_set 4 sc__law_room.nd (d_op op_mod (opf_intIf _ _) (d_b (d_callTy call_int1 cf_int bor1 (by rfl) z_int PyProof.Rows.boot_int (a_cons (d_varb 3) a_nil))) (d_b d_int)))
    (b_cons (s_set 3 sc__law_room.nd (d_op op_fdivW opf_fdiv (d_varb 3) (d_b d_int)))
    (b_cons (s_if (t_cmp (op_eqD hr.units) opf_eq (d_varb 4) (d_b d_int) (nomark _))
      (b_one (s_ret (d_op op_mod (opf_intIf _ _) (d_b (d_callTy call_int1 cf_int bor1 (by rfl) z_int PyProof.Rows.boot_int (a_cons (d_varb 3) a_nil))) (d_b d_int))))
      b_nil)
    (b_cons (s_set 5 sc__law_room.nd (d_op op_mod (opf_intIf _ _) (d_b (d_callTy call_int1 cf_int bor1 (by rfl) z_int PyProof.Rows.boot_int (a_cons (d_varb 3) a_nil))) (d_b (d_op op_addAll opf_addAll (d_b (d_callB call_len cf_len bor1 (by rfl) z_len PySem.boot_len (a_cons (d_varb 1) a_nil))) (d_b d_int)))))
    (b_cons (s_set 6 sc__law_room.nd (d_op op_mod (opf_intIf _ _) (d_b (d_callTy call_int1 cf_int bor1 (by rfl) z_int PyProof.Rows.boot_int (a_cons (d_b (d_op op_fdivW opf_fdiv (d_varb 3) (d_b d_int))) a_nil))) (d_b (d_op op_addAll opf_addAll (d_b (d_callB call_len cf_len bor1 (by rfl) z_len PySem.boot_len (a_cons (d_varb 1) a_nil))) (d_b d_int)))))
    (b_cons (s_set 7 sc__law_room.nd (d_fn C__law_extent (hr.mono (by decide)) (a_cons (d_b (d_slice (d_varb 1) (o_so (d_callB (call_min2 rfl) cf_min2 bor2 (by rfl) z_min PyProof.Rows.boot_min (a_cons (d_varb 5) (a_cons (d_varb 6) a_nil)))) (o_so (d_callB (call_max2 rfl) cf_max2 bor2 (by rfl) z_max PyProof.Rows.boot_max (a_cons (d_varb 5) (a_cons (d_varb 6) a_nil)))))) (a_cons (d_var 2) a_nil)) (am_bor (am_val am_nil))))
    (b_cons (s_if (t_cmp (op_eqD hr.units) opf_eq (d_varb 4) (d_b d_int) (nomark _))
      (b_one (s_ret (d_var 7)))
      b_nil)
    (b_cons (s_if (t_cmp (op_eqD hr.units) opf_eq (d_varb 4) (d_b d_int) (nomark _))
      (b_one (s_ret (d_callB (call_max2 rfl) cf_max2 bor2 (by rfl) z_max PyProof.Rows.boot_max (a_cons (d_b d_int) (a_cons (d_b (d_op op_sub opf_sub (d_varb 7) (d_b d_int))) a_nil)))))
      b_nil)
    (b_one (s_ret (d_op op_mod (opf_intIf _ _) (d_b (d_callTy call_int1 cf_int bor1 (by rfl) z_int PyProof.Rows.boot_int (a_cons (d_varb 3) a_nil))) (d_b (d_op op_addAll opf_addAll (d_b d_int) (d_b (d_op op_mulAll opf_mulAll (d_b d_int) (d_b (d_fn C__law_extent (hr.mono (by decide)) (a_cons (d_varb 1) (a_cons (d_var 2) a_nil)) (am_bor (am_val am_nil)))))))))))))))))))))
theorem ok_units {f : Addr} {fd : FuncData} (F : Fun K "units" "units" s_units f fd) {t_BROAD : Tok} (c_BROAD : mg "BROAD" = some (.str "mwMW@" t_BROAD)) {t_THIN : Tok} (c_THIN : mg "THIN" = some (.str " .,':;!|ijl" t_THIN)) :
    FnOk P w K mg base CX0 1 f fd ["char"] (spD K .val [.bor] F_units) :=
  fn_okB (b := B_units) F sc_units rfl rfl (am_bor am_nil) (fun cdv A outer s H E hr =>
    (b_cons (s_if (t_cmp (op_eqD hr.units) opf_eq (d_varb 0) (d_b d_str) (nomark _))
      (b_one (s_ret d_int))
      b_nil)
    (b_cons (s_if (t_cmp (op_inA (units65 hr)) opf_in (d_varb 0) (d_b (d_const (pe_glob (v := .str " .,':;!|ijl") rfl c_THIN ⟨_, rfl⟩) fun _ => .str _)) (by with_unfolding_all rfl))
      (b_one (s_ret d_int))
      b_nil)
    (b_cons (s_if (t_cmp (op_inA (units65 hr)) opf_in (d_varb 0) (d_b (d_const (pe_glob (v := .str "mwMW@") rfl c_BROAD ⟨_, rfl⟩) fun _ => .str _)) (by with_unfolding_all rfl))
      (b_one (s_ret d_int))
      b_nil)
    (b_one (s_ret d_int))))))
theorem ok_advance {f : Addr} {fd : FuncData} (F : Fun K "advance" "advance" s_advance f fd) (C_units : Fn1 P w K mg base "units" ["char"] 1 .val [.bor] F_units) :
    FnOk P w K mg base CX0 2 f fd ["char", "size"] (spD K .val [.bor, .bor] F_advance) :=
  fn_okB (b := B_advance) F sc_advance rfl rfl (am_bor (am_bor am_nil)) (fun cdv A outer s H E hr =>
    (b_one (s_ret (d_op op_mulAll opf_mulAll (d_b (d_fn C_units (hr.mono (by decide)) (a_cons (d_varb 0) a_nil) (am_bor am_nil))) (d_varb 1)))))
theorem ok_offsets {f : Addr} {fd : FuncData} (F : Fun K "offsets" "offsets" s_offsets f fd) (C_advance : Fn1 P w K mg base "advance" ["char", "size"] 2 .val [.bor, .bor] F_advance) :
    FnOk P w K mg base CX0 3 f fd ["string", "size"] (spD K .new [.bor, .bor] F_offsets) :=
  fn_okB (b := B_offsets) F sc_offsets rfl rfl (am_bor (am_bor am_nil)) (fun cdv A outer s H E hr =>
    (b_cons (s_own 2 sc_offsets.nd (d_lst (a_cons d_int a_nil) (v_cons v_nil)))
    (b_cons (s_for PassesOwn.never rfl (i_par (d_varp 0)) (g_name 3 sc_offsets.nd)
      (b_one (s_app 2 (d_op op_addAll opf_addAll (d_b (d_ix (d_varb 2) (d_b (d_un un_neg unf_neg (d_b d_int))))) (d_b (d_fn C_advance (hr.mono (by decide)) (a_cons (d_varb 3) (a_cons (d_varb 1) a_nil)) (am_bor (am_bor am_nil))))))))
    (b_one (s_retOwn 2)))))
theorem ok_paragraphs {f : Addr} {fd : FuncData} (F : Fun K "paragraphs" "paragraphs" s_paragraphs f fd) (z_len : mg "len" = none) :
    FnOk P w K mg base CX0 1 f fd ["string"] (spD K .new [.bor] F_paragraphs) :=
  fn_okB (b := B_paragraphs) F sc_paragraphs rfl rfl (am_bor am_nil) (fun cdv A outer s H E hr =>
    (b_cons (s_own 1 sc_paragraphs.nd (d_lst a_nil v_nil))
    (b_cons (s_set 2 sc_paragraphs.nd d_int)
    (b_cons (s_for PassesOwn.never rfl (i_val (d_fz (d_split (d_varb 0) (d_b d_str)))) (g_name 3 sc_paragraphs.nd)
      (b_cons (s_app 1 (d_tup (a_cons (d_var 2) (a_cons (d_op op_addAll opf_addAll (d_varb 2) (d_b (d_callB call_len cf_len bor1 (by rfl) z_len PySem.boot_len (a_cons (d_varb 3) a_nil)))) a_nil)) (v_cons (v_cons v_nil))))
      (b_one (s_augAdd 2 sc_paragraphs.nd (d_op op_addAll opf_addAll (d_b (d_callB call_len cf_len bor1 (by rfl) z_len PySem.boot_len (a_cons (d_varb 3) a_nil))) (d_b d_int))))))
    (b_one (s_retOwn 1))))))
theorem ok_break_paragraph {f : Addr} {fd : FuncData} (F : Fun K "break_paragraph" "break_paragraph" s_break_paragraph f fd) :
    FnOk P w K mg base CX0 1 f fd ["parts", "start", "sums", "width"] (spD K .new [.bor, .val, .bor, .bor] F_break_paragraph) :=
  fn_okB (b := B_break_paragraph) F sc_break_paragraph rfl rfl (am_bor (am_val (am_bor (am_bor am_nil)))) (fun cdv A outer s H E hr =>
    (b_cons (s_own 4 sc_break_paragraph.nd (d_lst a_nil v_nil))
    (b_cons (s_for PassesOwn.never rfl (i_par (d_varp 0)) (g_tup rfl (gs_cons (g_name 5 sc_break_paragraph.nd) (gs_cons (g_name 6 sc_break_paragraph.nd) gs_nil)))
      (b_one (s_if (t_w (w_and (t_val (d_varb 4)) (w_and1 (t_cmp op_le (opf_cmpI _) (d_b (d_op op_sub opf_sub (d_b (d_ix (d_varb 2) (d_varb 6))) (d_b (d_ix (d_varb 2) (d_b (d_ix (d_b (d_ix (d_varb 4) (d_b (d_un un_neg unf_neg (d_b d_int))))) (d_b d_int))))))) (d_varb 3) (nomark _)))))
        (b_one (s_put 4 (d_tup (a_cons (d_ix (d_b (d_ix (d_varb 4) (d_b (d_un un_neg unf_neg (d_b d_int))))) (d_b d_int)) (a_cons (d_var 6) a_nil)) (v_cons (v_cons v_nil))) (d_un un_neg unf_neg (d_b d_int))))
        (b_one (s_app 4 (d_tup (a_cons (d_var 5) (a_cons (d_var 6) a_nil)) (v_cons (v_cons v_nil))))))))
    (b_cons (s_if (t_not (t_val (d_varb 4)))
      (b_one (s_app 4 (d_tup (a_cons (d_var 1) (a_cons (d_var 1) a_nil)) (v_cons (v_cons v_nil)))))
      b_nil)
    (b_one (s_retOwn 4))))))
theorem ok_words {f : Addr} {fd : FuncData} (F : Fun K "words" "words" s_words f fd) (z_range : mg "range" = none) :
    FnOk P w K mg base CX0 1 f fd ["string", "start", "end"] (spD K .new [.bor, .val, .val] F_words) :=
  fn_okB (b := B_words) F sc_words rfl rfl (am_bor (am_val (am_val am_nil))) (fun cdv A outer s H E hr =>
    (b_cons (s_own 3 sc_words.nd (d_lst a_nil v_nil))
    (b_cons (s_set 4 sc_words.nd d_non)
    (b_cons (s_for PassesOwn.never rfl (i_range2 (by rfl) z_range (a_cons (d_var 1) (a_cons (d_var 2) a_nil))) (g_name 5 sc_words.nd)
      (b_one (s_if (t_w (w_or (t_cmp (op_eqD hr.units) opf_eq (d_b (d_ix (d_varb 0) (d_varb 5))) (d_b d_str) (nomark _)) (w_or1 (t_cmp (op_eqD hr.units) opf_eq (d_b (d_ix (d_varb 0) (d_varb 5))) (d_b d_str) (nomark _)))))
        (b_cons (s_if (t_cmp op_notN opf_notN (d_varb 4) (d_b d_non) (nomark _))
          (b_one (s_app 3 (d_tup (a_cons (d_var 4) (a_cons (d_var 5) a_nil)) (v_cons (v_cons v_nil)))))
          b_nil)
        (b_one (s_set 4 sc_words.nd d_non)))
        (b_one (s_if (t_cmp op_isN opf_isN (d_varb 4) (d_b d_non) (nomark _))
          (b_one (s_set 4 sc_words.nd (d_var 5)))
          b_nil)))))
    (b_cons (s_if (t_cmp op_notN opf_notN (d_varb 4) (d_b d_non) (nomark _))
      (b_one (s_app 3 (d_tup (a_cons (d_var 4) (a_cons (d_var 2) a_nil)) (v_cons (v_cons v_nil)))))
      b_nil)
    (b_one (s_retOwn 3)))))))
theorem ok_break_lines {f : Addr} {fd : FuncData} (F : Fun K "break_lines" "break_lines" s_break_lines f fd) (C_offsets : Fn1 P w K mg base "offsets" ["string", "size"] 3 .new [.bor, .bor] F_offsets) (C_paragraphs : Fn1 P w K mg base "paragraphs" ["string"] 1 .new [.bor] F_paragraphs) (C_break_paragraph : Fn1 P w K mg base "break_paragraph" ["parts", "start", "sums", "width"] 1 .new [.bor, .val, .bor, .bor] F_break_paragraph) (C_words : Fn1 P w K mg base "words" ["string", "start", "end"] 1 .new [.bor, .val, .val] F_words) :
    FnOk P w K mg base CX0 4 f fd ["string", "size", "width"] (spD K .new [.bor, .bor, .bor] F_break_lines) :=
  fn_okB (b := B_break_lines) F sc_break_lines rfl rfl (am_bor (am_bor (am_bor am_nil))) (fun cdv A outer s H E hr =>
    (b_cons (s_set 3 sc_break_lines.nd (d_fz (d_fn C_offsets (hr.mono (by decide)) (a_cons (d_varb 0) (a_cons (d_varb 1) a_nil)) (am_bor (am_bor am_nil)))))
    (b_cons (s_own 4 sc_break_lines.nd (d_lst a_nil v_nil))
    (b_cons (s_for PassesOwn.never rfl (i_val (d_fz (d_fn C_paragraphs (hr.mono (by decide)) (a_cons (d_varb 0) a_nil) (am_bor am_nil)))) (g_tup rfl (gs_cons (g_name 5 sc_break_lines.nd) (gs_cons (g_name 6 sc_break_lines.nd) gs_nil)))
      (b_one (s_ext 4 (d_fn C_break_paragraph (hr.mono (by decide)) (a_cons (d_b (d_fn C_words (hr.mono (by decide)) (a_cons (d_varb 0) (a_cons (d_var 5) (a_cons (d_var 6) a_nil))) (am_bor (am_val (am_val am_nil))))) (a_cons (d_var 5) (a_cons (d_varb 3) (a_cons (d_varb 2) a_nil)))) (am_bor (am_val (am_bor (am_bor am_nil))))))))
    (b_one (s_retOwn 4))))))
theorem ok_ends_paragraph {f : Addr} {fd : FuncData} (F : Fun K "ends_paragraph" "ends_paragraph" s_ends_paragraph f fd) :
    FnOk P w K mg base CX0 1 f fd ["string", "line"] (spD K .val [.bor, .bor] F_ends_paragraph) :=
  fn_okB (b := B_ends_paragraph) F sc_ends_paragraph rfl rfl (am_bor (am_bor am_nil)) (fun cdv A outer s H E hr =>
    (b_cons (s_for PassesOwn.never rfl (i_val (d_slice (d_varb 0) (o_so (d_ix (d_varb 1) (d_b d_int))) o_no)) (g_name 2 sc_ends_paragraph.nd)
      (b_cons (s_if (t_cmp (op_eqD hr.units) opf_eq (d_varb 2) (d_b d_str) (nomark _))
        (b_one (s_ret d_bl))
        b_nil)
      (b_one (s_if (t_cmp (op_neD hr.units) opf_ne (d_varb 2) (d_b d_str) (nomark _))
        (b_one (s_ret d_bl))
        b_nil))))
    (b_one (s_ret d_bl))))
theorem ok_justified {f : Addr} {fd : FuncData} (F : Fun K "justified" "justified" s_justified f fd) (z_len : mg "len" = none) (z_min : mg "min" = none) (z_range : mg "range" = none) :
    FnOk P w K mg base CX0 1 f fd ["part", "sums", "rest"] (spM K .new [.val, .new, .val] F_justified) :=
  fn_okM (b := B_justified) F sc_justified rfl rfl (mv_val (mv_new (mv_val mv_nil))) rfl (fun cdv A outer s H E hr =>
    (b_cons (s_set 3 sc_justified.nd (d_count (d_varb 0) (d_b d_str)))
    (b_cons (s_if (t_cmp (op_eqD hr.units) opf_eq (d_varb 3) (d_b d_int) (nomark _))
      (b_one (s_retOwn 1))
      b_nil)
    (b_cons (s_set 4 sc_justified.nd (d_op op_fdivW opf_fdiv (d_varb 2) (d_varb 3)))
    (b_cons (s_set 5 sc_justified.nd (d_op op_sub opf_sub (d_varb 2) (d_b (d_op op_mulAll opf_mulAll (d_varb 3) (d_varb 4)))))
    (b_cons (s_own 6 sc_justified.nd (d_lst (a_cons d_int a_nil) (v_cons v_nil)))
    (b_cons (s_set 7 sc_justified.nd d_int)
    (b_cons (s_for PassesOwn.never rfl (i_range1 (by rfl) z_range (a_cons (d_callB call_len cf_len bor1 (by rfl) z_len PySem.boot_len (a_cons (d_varb 0) a_nil)) a_nil)) (g_name 8 sc_justified.nd)
      (b_cons (s_if (t_cmp (op_eqD hr.units) opf_eq (d_b (d_ix (d_varb 0) (d_varb 8))) (d_b d_str) (nomark _))
        (b_one (s_augAdd 7 sc_justified.nd d_int))
        b_nil)
      (b_one (s_app 6 (d_op op_addAll opf_addAll (d_b (d_op op_addAll opf_addAll (d_b (d_ix (d_varb 1) (d_b (d_op op_addAll opf_addAll (d_varb 8) (d_b d_int))))) (d_b (d_op op_mulAll opf_mulAll (d_varb 7) (d_varb 4))))) (d_b (d_callB (call_min2 rfl) cf_min2 bor2 (by rfl) z_min PyProof.Rows.boot_min (a_cons (d_varb 7) (a_cons (d_varb 5) a_nil)))))))))
    (b_one (s_retOwn 6))))))))))
theorem ok_place_line {f : Addr} {fd : FuncData} (F : Fun K "place_line" "place_line" s_place_line f fd) (C_offsets : Fn1 P w K mg base "offsets" ["string", "size"] 3 .new [.bor, .bor] F_offsets) (C_ends_paragraph : Fn1 P w K mg base "ends_paragraph" ["string", "line"] 1 .val [.bor, .bor] F_ends_paragraph) (C_justified : Fn1M P w K mg base "justified" ["part", "sums", "rest"] 1 .new [.val, .new, .val] F_justified) (z_max : mg "max" = none) :
    FnOk P w K mg base CX0 4 f fd ["string", "line", "size", "width", "align"] (spD K .new [.bor, .bor, .bor, .bor, .bor] F_place_line) :=
  fn_okB (b := B_place_line) F sc_place_line rfl rfl (am_bor (am_bor (am_bor (am_bor (am_bor am_nil))))) (fun cdv A outer s H E hr =>
    (b_cons (s_set 5 sc_place_line.nd (d_slice (d_varb 0) (o_so (d_ix (d_varb 1) (d_b d_int))) (o_so (d_ix (d_varb 1) (d_b d_int)))))
    (b_cons (s_own 6 sc_place_line.nd (d_fn C_offsets (hr.mono (by decide)) (a_cons (d_varb 5) (a_cons (d_varb 2) a_nil)) (am_bor (am_bor am_nil))))
    (b_cons (s_set 7 sc_place_line.nd (d_callB (call_max2 rfl) cf_max2 bor2 (by rfl) z_max PyProof.Rows.boot_max (a_cons (d_b d_int) (a_cons (d_b (d_op op_sub opf_sub (d_varb 3) (d_b (d_ix (d_varb 6) (d_b (d_un un_neg unf_neg (d_b d_int))))))) a_nil))))
    (b_cons (s_if (t_w (w_and (t_cmp (op_eqD hr.units) opf_eq (d_varb 4) (d_b d_str) (nomark _)) (w_and1 (t_not (t_val (d_b (d_fn C_ends_paragraph (hr.mono (by decide)) (a_cons (d_varb 0) (a_cons (d_varb 1) a_nil)) (am_bor (am_bor am_nil)))))))))
      (b_one (s_retMov C_justified (hr.mono (by decide)) (am_c (d_var 5) (am_m 6 (am_c (d_var 7) am0)))))
      b_nil)
    (b_cons (s_set 8 sc_place_line.nd d_int)
    (b_cons (s_if (t_cmp (op_eqD hr.units) opf_eq (d_varb 4) (d_b d_str) (nomark _))
      (b_one (s_set 8 sc_place_line.nd (d_var 7)))
      (b_one (s_if (t_cmp (op_eqD hr.units) opf_eq (d_varb 4) (d_b d_str) (nomark _))
        (b_one (s_set 8 sc_place_line.nd (d_op op_fdivW opf_fdiv (d_varb 7) (d_b d_int))))
        b_nil)))
    (b_one (s_ret (d_lc rfl sc_place_line.nd rfl (i_bor (d_varb 6)) (blkOk_by (N := N_place_line) (sc := defScope s_place_line) (own := [("place", 9)]) (by decide +kernel)) (fun _ _ _ _ _ => (gw_name 9 sc_place_line.nd)) (fun _ _ _ _ _ => ts_nil) (fun _ _ _ _ _ => (d_op op_addAll opf_addAll (d_varb 9) (d_varb 8)))))))))))))
theorem ok__law_is_integer {f : Addr} {fd : FuncData} (F : Fun K "_law_is_integer" "_law_is_integer" s__law_is_integer f fd) (z_bool : mg "bool" = none) (z_int : mg "int" = none) (z_isinstance : mg "isinstance" = none) :
    FnOk P w K mg base CX0 1 f fd ["value"] (spD K .val [.bor] F__law_is_integer) :=
  fn_okB (b := B__law_is_integer) F sc__law_is_integer rfl rfl (am_bor am_nil) (fun cdv A outer s H E hr =>
    (b_one (s_ret (d_and (d_isi (by rfl) z_isinstance (d_varb 0) (by rfl) z_int PyProof.Rows.boot_int okT_int (by decide +kernel)) (d_one (d_not (d_b (d_isi (by rfl) z_isinstance (d_varb 0) (by rfl) z_bool (by decide +kernel) okT_bool (by decide +kernel)))))))))
theorem ok__law_gains {f : Addr} {fd : FuncData} (F : Fun K "_law_gains" "_law_gains" s__law_gains f fd) (C__law_advance : Fn1 P w K mg base "_law_advance" ["char", "scale"] 1 .val [.bor, .val] F__law_advance) (z_len : mg "len" = none) (z_range : mg "range" = none) :
    FnOk P w K mg base CX0 2 f fd ["places", "part", "scale"] (spD K .val [.bor, .bor, .val] F__law_gains) :=
  fn_okB (b := B__law_gains) F sc__law_gains rfl rfl (am_bor (am_bor (am_val am_nil))) (fun cdv A outer s H E hr =>
    (b_cons (s_own 3 sc__law_gains.nd (d_lst a_nil v_nil))
    (b_cons (s_for PassesOwn.never rfl (i_range1 (by rfl) z_range (a_cons (d_callB call_len cf_len bor1 (by rfl) z_len PySem.boot_len (a_cons (d_varb 1) a_nil)) a_nil)) (g_name 4 sc__law_gains.nd)
      (b_cons (s_set 5 sc__law_gains.nd (d_op op_sub opf_sub (d_b (d_op op_sub opf_sub (d_b (d_ix (d_varb 0) (d_b (d_op op_addAll opf_addAll (d_varb 4) (d_b d_int))))) (d_b (d_ix (d_varb 0) (d_varb 4))))) (d_b (d_fn C__law_advance (hr.mono (by decide)) (a_cons (d_b (d_ix (d_varb 1) (d_varb 4))) (a_cons (d_var 2) a_nil)) (am_bor (am_val am_nil))))))
      (b_one (s_if (t_cmp (op_eqD hr.units) opf_eq (d_b (d_ix (d_varb 1) (d_varb 4))) (d_b d_str) (nomark _))
        (b_one (s_app 3 (d_var 5)))
        (b_one (s_if (t_cmp (op_neD hr.units) opf_ne (d_varb 5) (d_b d_int) (nomark _))
          (b_one (s_ret d_non))
          b_nil))))))
    (b_one (s_fz 3 (s_ret (d_var 3)))))))
theorem ok__law_is_even {f : Addr} {fd : FuncData} (F : Fun K "_law_is_even" "_law_is_even" s__law_is_even f fd) (z_len : mg "len" = none) (z_range : mg "range" = none) :
    FnOk P w K mg base CX0 1 f fd ["gains"] (spD K .val [.bor] F__law_is_even) :=
  fn_okB (b := B__law_is_even) F sc__law_is_even rfl rfl (am_bor am_nil) (fun cdv A outer s H E hr =>
    (b_cons (s_for PassesOwn.never rfl (i_range2 (by rfl) z_range (a_cons d_int (a_cons (d_callB call_len cf_len bor1 (by rfl) z_len PySem.boot_len (a_cons (d_varb 0) a_nil)) a_nil))) (g_name 1 sc__law_is_even.nd)
      (b_one (s_if (t_cmp op_gt (opf_cmpI _) (d_b (d_ix (d_varb 0) (d_varb 1))) (d_b (d_ix (d_varb 0) (d_b (d_op op_sub opf_sub (d_varb 1) (d_b d_int))))) (nomark _))
        (b_one (s_ret d_bl))
        b_nil)))
    (b_one (s_ret (d_or (d_cmp (op_eqD hr.units) opf_eq (d_b (d_callB call_len cf_len bor1 (by rfl) z_len PySem.boot_len (a_cons (d_varb 0) a_nil))) (d_b d_int) (nomark _)) (d_one (d_and (d_cmp op_ge (opf_cmpI _) (d_b (d_ix (d_varb 0) (d_b (d_un un_neg unf_neg (d_b d_int))))) (d_b d_int) (nomark _)) (d_one (d_cmp op_le (opf_cmpI _) (d_b (d_ix (d_varb 0) (d_b d_int))) (d_b (d_op op_addAll opf_addAll (d_b (d_ix (d_varb 0) (d_b (d_un un_neg unf_neg (d_b d_int))))) (d_b d_int))) (nomark _))))))))))
theorem ok__law_is_blank {f : Addr} {fd : FuncData} (F : Fun K "_law_is_blank" "_law_is_blank" s__law_is_blank f fd) :
    FnOk P w K mg base CX0 1 f fd ["text"] (spD K .val [.bor] F__law_is_blank) :=
  fn_okB (b := B__law_is_blank) F sc__law_is_blank rfl rfl (am_bor am_nil) (fun cdv A outer s H E hr =>
    (b_cons (s_for PassesOwn.never rfl (i_par (d_varp 0)) (g_name 1 sc__law_is_blank.nd)
      (b_one (s_if (t_w (w_and (t_cmp (op_neD hr.units) opf_ne (d_varb 1) (d_b d_str) (nomark _)) (w_and1 (t_cmp (op_neD hr.units) opf_ne (d_varb 1) (d_b d_str) (nomark _)))))
        (b_one (s_ret d_bl))
        b_nil)))
    (b_one (s_ret d_bl))))
theorem ok__law_rest {f : Addr} {fd : FuncData} (F : Fun K "_law_rest" "_law_rest" s__law_rest f fd) :
    FnOk P w K mg base CX0 1 f fd ["text", "at"] (spD K .val [.bor, .val] F__law_rest) :=
  fn_okB (b := B__law_rest) F sc__law_rest rfl rfl (am_bor (am_val am_nil)) (fun cdv A outer s H E hr =>
    (b_cons (s_set 2 sc__law_rest.nd (d_ms PySem.F.slot_str_find PySem.F.type_str_find mt_find3 mtf_find3 (fun _ _ _ => s_find3) (d_varb 0) (a_cons (d_b d_str) (a_cons (d_var 1) a_nil))))
    (b_cons (s_if (t_cmp op_lt (opf_cmpI _) (d_varb 2) (d_b d_int) (nomark _))
      (b_one (s_ret (d_slice (d_varb 0) (o_so (d_var 1)) o_no)))
      b_nil)
    (b_one (s_ret (d_slice (d_varb 0) (o_so (d_var 1)) (o_so (d_var 2))))))))
theorem ok_law {f : Addr} {fd : FuncData} (F : Fun K "law" "law" s_law f fd) (C_place_line_0 : FnKw P w K mg base "place_line" ["string", "line", "size", "width", "align"] 4 .new [.bor, .bor, .bor, .bor, .bor] F_place_line 2 ["size", "width", "align"] []) (C__law_text : Fn1 P w K mg base "_law_text" ["script", "first"] 3 .val [.scr, .val] F__law_text) (C__law_source : Fn1 P w K mg base "_law_source" ["cell"] 2 .val [.bor] F__law_source) (C__law_cell : Fn1 P w K mg base "_law_cell" ["script", "k"] 1 .val [.scr, .val] F__law_cell) (C__law_room : Fn1 P w K mg base "_law_room" ["cell", "text", "scale"] 3 .val [.bor, .bor, .val] F__law_room) (C_break_lines : Fn1 P w K mg base "break_lines" ["string", "size", "width"] 4 .new [.bor, .bor, .bor] F_break_lines) (C__law_is_integer : Fn1 P w K mg base "_law_is_integer" ["value"] 1 .val [.bor] F__law_is_integer) (C__law_gains : Fn1 P w K mg base "_law_gains" ["places", "part", "scale"] 2 .val [.bor, .bor, .val] F__law_gains) (C__law_is_even : Fn1 P w K mg base "_law_is_even" ["gains"] 1 .val [.bor] F__law_is_even) (C__law_extent : Fn1 P w K mg base "_law_extent" ["text", "scale"] 2 .val [.bor, .val] F__law_extent) (C__law_is_blank : Fn1 P w K mg base "_law_is_blank" ["text"] 1 .val [.bor] F__law_is_blank) (C__law_rest : Fn1 P w K mg base "_law_rest" ["text", "at"] 1 .val [.bor, .val] F__law_rest) (z_int : mg "int" = none) (z_isinstance : mg "isinstance" = none) (z_len : mg "len" = none) (z_list : mg "list" = none) (z_max : mg "max" = none) :
    FnOk P w K mg base CX0 5 f fd ["script"] (spD K .val [.scr] F_law) :=
  fn_okB (b := B_law) F sc_law rfl rfl (am_scr am_nil) (fun cdv A outer s H E hr =>
    (b_cons (s_set 1 sc_law.nd (d_fn C__law_text (hr.mono (by decide)) (a_cons (d_vars 0) (a_cons d_int a_nil)) (am_scr (am_val am_nil))))
    (b_cons (s_set 2 sc_law.nd (d_fn C__law_source (hr.mono (by decide)) (a_cons (d_b (d_fn C__law_cell (hr.mono (by decide)) (a_cons (d_vars 0) (a_cons d_int a_nil)) (am_scr (am_val am_nil)))) a_nil) (am_bor am_nil)))
    (b_cons (s_set 3 sc_law.nd (d_op op_addAll opf_addAll (d_b d_int) (d_b (d_op op_mod (opf_intIf _ _) (d_b (d_callTy call_int1 cf_int bor1 (by rfl) z_int PyProof.Rows.boot_int (a_cons (d_varb 2) a_nil))) (d_b d_int)))))
    (b_cons (s_set 4 sc_law.nd (d_fn C__law_room (hr.mono (by decide)) (a_cons (d_b (d_fn C__law_cell (hr.mono (by decide)) (a_cons (d_vars 0) (a_cons d_int a_nil)) (am_scr (am_val am_nil)))) (a_cons (d_varb 1) (a_cons (d_var 3) a_nil))) (am_bor (am_bor (am_val am_nil)))))
    (b_cons (s_set 5 sc_law.nd (d_fz (d_fn C_break_lines (hr.mono (by decide)) (a_cons (d_varb 1) (a_cons (d_varb 3) (a_cons (d_varb 4) a_nil))) (am_bor (am_bor (am_bor am_nil))))))
    (b_cons (s_if (t_w (w_or (t_not (t_val (d_b (d_isi (by rfl) z_isinstance (d_varb 5) (by rfl) z_list PyProof.Rows.boot_list okT_list (by decide +kernel))))) (w_or1 (t_cmp (op_eqD hr.units) opf_eq (d_b (d_callB call_len cf_len bor1 (by rfl) z_len PySem.boot_len (a_cons (d_varb 5) a_nil))) (d_b d_int) (nomark _)))))
      (b_one (s_ret d_bl))
      b_nil)
    (b_cons (s_if (t_cmp (op_eqD hr.units) opf_eq (d_b (d_op op_mod (opf_intIf _ _) (d_b (d_callTy call_int1 cf_int bor1 (by rfl) z_int PyProof.Rows.boot_int (a_cons (d_b (d_op op_fdivW opf_fdiv (d_varb 2) (d_b d_int))) a_nil))) (d_b d_int))) (d_b d_int) (nomark _))
      (b_one (s_set 4 sc_law.nd (d_op op_mod (opf_intIf _ _) (d_b (d_callTy call_int1 cf_int bor1 (by rfl) z_int PyProof.Rows.boot_int (a_cons (d_b (d_op op_fdivW opf_fdiv (d_varb 2) (d_b d_int))) a_nil))) (d_b (d_ix (d_b (d_lst (a_cons d_int (a_cons d_int a_nil)) (v_cons (v_cons v_nil)))) (d_b (d_op op_mod (opf_intIf _ _) (d_b (d_callTy call_int1 cf_int bor1 (by rfl) z_int PyProof.Rows.boot_int (a_cons (d_b (d_op op_fdivW opf_fdiv (d_varb 2) (d_b d_int))) a_nil))) (d_b d_int))))))))
      b_nil)
    (b_cons (s_for PassesOwn.never rfl (i_val (d_var 5)) (g_name 6 sc_law.nd)
      (b_cons (s_set 7 sc_law.nd (d_slice (d_varb 1) (o_so (d_ix (d_varb 6) (d_b d_int))) (o_so (d_ix (d_varb 6) (d_b d_int)))))
      (b_cons (s_own 8 sc_law.nd (d_fnK (ms1 := [.bor, .bor]) (ms2 := [.bor, .bor, .bor]) (ms3 := []) C_place_line_0 (hr.mono (by decide)) (a_cons (d_varb 1) (a_cons (d_varb 6) a_nil)) (k_cons (d_varb 3) (k_cons (d_varb 4) (k_cons (d_b d_str) k_nil))) (fun _ _ _ _ => .nil) (am_bor (am_bor (am_bor (am_bor (am_bor am_nil))))) rfl rfl))
      (b_cons (s_if (t_w (w_or (t_not (t_val (d_b (d_isi (by rfl) z_isinstance (d_varb 8) (by rfl) z_list PyProof.Rows.boot_list okT_list (by decide +kernel))))) (w_or1 (t_cmp (op_neD hr.units) opf_ne (d_b (d_callB call_len cf_len bor1 (by rfl) z_len PySem.boot_len (a_cons (d_varb 8) a_nil))) (d_b (d_op op_addAll opf_addAll (d_b (d_callB call_len cf_len bor1 (by rfl) z_len PySem.boot_len (a_cons (d_varb 7) a_nil))) (d_b d_int))) (nomark _)))))
        (b_one (s_ret d_bl))
        b_nil)
      (b_cons (s_forOwn 8 PassesOwn.never rfl (g_name 9 sc_law.nd)
        (b_one (s_if (t_not (t_val (d_b (d_fn C__law_is_integer (hr.mono (by decide)) (a_cons (d_varb 9) a_nil) (am_bor am_nil)))))
          (b_one (s_ret d_bl))
          b_nil)))
      (b_cons (s_set 10 sc_law.nd (d_fn C__law_gains (hr.mono (by decide)) (a_cons (d_varb 8) (a_cons (d_varb 7) (a_cons (d_var 3) a_nil))) (am_bor (am_bor (am_val am_nil)))))
      (b_cons (s_if (t_w (w_or (t_cmp op_isN opf_isN (d_varb 10) (d_b d_non) (nomark _)) (w_or (t_cmp (op_neD hr.units) opf_ne (d_b (d_ix (d_varb 8) (d_b d_int))) (d_b d_int) (nomark _)) (w_or1 (t_not (t_val (d_b (d_fn C__law_is_even (hr.mono (by decide)) (a_cons (d_varb 10) a_nil) (am_bor am_nil)))))))))
        (b_one (s_ret d_bl))
        b_nil)
      (b_cons (s_set 11 sc_law.nd (d_fn C__law_extent (hr.mono (by decide)) (a_cons (d_varb 7) (a_cons (d_var 3) a_nil)) (am_bor (am_val am_nil))))
      (b_cons (s_if (t_w (w_and (t_not (t_val (d_b (d_fn C__law_is_blank (hr.mono (by decide)) (a_cons (d_b (d_fn C__law_rest (hr.mono (by decide)) (a_cons (d_varb 1) (a_cons (d_ix (d_varb 6) (d_b d_int)) a_nil)) (am_bor (am_val am_nil)))) a_nil) (am_bor am_nil))))) (w_and1 (t_cmp (op_inA (units65 hr)) opf_in (d_b d_str) (d_varb 7) (by with_unfolding_all rfl)))))
        (b_one (s_set 11 sc_law.nd (d_callB (call_max2 rfl) cf_max2 bor2 (by rfl) z_max PyProof.Rows.boot_max (a_cons (d_varb 11) (a_cons (d_varb 4) a_nil)))))
        b_nil)
      (b_cons (s_if (t_cmp (op_neD hr.units) opf_ne (d_b (d_ix (d_varb 8) (d_b (d_un un_neg unf_neg (d_b d_int))))) (d_varb 11) (nomark _))
        (b_one (s_ret d_bl))
        b_nil)
      (b_cons (s_set 12 sc_law.nd (d_fz (d_callTy call_list_of cf_list bor1 (by rfl) z_list PyProof.Rows.boot_list (a_cons (d_varb 8) a_nil))))
      (b_cons (s_put 8 (d_un un_neg unf_neg (d_b d_int)) d_int)
      (b_one (s_if (t_cmp (op_neD hr.units) opf_ne (d_b (d_fnK (ms1 := [.bor, .bor]) (ms2 := [.bor, .bor, .bor]) (ms3 := []) C_place_line_0 (hr.mono (by decide)) (a_cons (d_varb 1) (a_cons (d_varb 6) a_nil)) (k_cons (d_varb 3) (k_cons (d_varb 4) (k_cons (d_b d_str) k_nil))) (fun _ _ _ _ => .nil) (am_bor (am_bor (am_bor (am_bor (am_bor am_nil))))) rfl rfl)) (d_varb 12) (nomark _))
        (b_one (s_ret d_bl))
        b_nil))))))))))))))
    (b_one (s_ret d_bl)))))))))))
end
/-! ### what the top has written -/
theorem all_mk {l : PySem.W.OpenLaw} {w : World} {K : PySem.W.Frag} {h : Heap} {mg : Str → Option Value} {fa : Addr} (X : K.In h) (G : h.Ns mainGlobals mg) (hfa : mg "law" = some (.ref fa))
    {f0 : Addr} {od0 an0 : Option Addr} {sl0 : Array (Option Value)} {oc0 kV0 dc0 pm0 cd0 ct0 : Value}
    {f1 : Addr} {od1 an1 : Option Addr} {sl1 : Array (Option Value)} {oc1 kV1 dc1 pm1 cd1 ct1 : Value}
    {f2 : Addr} {od2 an2 : Option Addr} {sl2 : Array (Option Value)} {oc2 kV2 dc2 pm2 cd2 ct2 : Value}
    {f3 : Addr} {od3 an3 : Option Addr} {sl3 : Array (Option Value)} {oc3 kV3 dc3 pm3 cd3 ct3 : Value}
    {f4 : Addr} {od4 an4 : Option Addr} {sl4 : Array (Option Value)} {oc4 kV4 dc4 pm4 cd4 ct4 : Value}
    {f5 : Addr} {od5 an5 : Option Addr} {sl5 : Array (Option Value)} {oc5 kV5 dc5 pm5 cd5 ct5 : Value}
    {f6 : Addr} {od6 an6 : Option Addr} {sl6 : Array (Option Value)} {oc6 kV6 dc6 pm6 cd6 ct6 : Value}
    {f7 : Addr} {od7 an7 : Option Addr} {sl7 : Array (Option Value)} {oc7 kV7 dc7 pm7 cd7 ct7 : Value}
    {f8 : Addr} {od8 an8 : Option Addr} {sl8 : Array (Option Value)} {oc8 kV8 dc8 pm8 cd8 ct8 : Value}
    {f9 : Addr} {od9 an9 : Option Addr} {sl9 : Array (Option Value)} {oc9 kV9 dc9 pm9 cd9 ct9 : Value}
    {f10 : Addr} {od10 an10 : Option Addr} {sl10 : Array (Option Value)} {oc10 kV10 dc10 pm10 cd10 ct10 : Value}
    {f11 : Addr} {od11 an11 : Option Addr} {sl11 : Array (Option Value)} {oc11 kV11 dc11 pm11 cd11 ct11 : Value}
    {f12 : Addr} {od12 an12 : Option Addr} {sl12 : Array (Option Value)} {oc12 kV12 dc12 pm12 cd12 ct12 : Value}
    {f13 : Addr} {od13 an13 : Option Addr} {sl13 : Array (Option Value)} {oc13 kV13 dc13 pm13 cd13 ct13 : Value}
    {f14 : Addr} {od14 an14 : Option Addr} {sl14 : Array (Option Value)} {oc14 kV14 dc14 pm14 cd14 ct14 : Value}
    {f15 : Addr} {od15 an15 : Option Addr} {sl15 : Array (Option Value)} {oc15 kV15 dc15 pm15 cd15 ct15 : Value}
    {f16 : Addr} {od16 an16 : Option Addr} {sl16 : Array (Option Value)} {oc16 kV16 dc16 pm16 cd16 ct16 : Value}
    {f17 : Addr} {od17 an17 : Option Addr} {sl17 : Array (Option Value)} {oc17 kV17 dc17 pm17 cd17 ct17 : Value}
    {f18 : Addr} {od18 an18 : Option Addr} {sl18 : Array (Option Value)} {oc18 dc18 pm18 cd18 ct18 : Value}
    {D18 : Addr}
    {td18_align : Tok}
    {f19 : Addr} {od19 an19 : Option Addr} {sl19 : Array (Option Value)} {oc19 kV19 dc19 pm19 cd19 ct19 : Value}
    {f20 : Addr} {od20 an20 : Option Addr} {sl20 : Array (Option Value)} {oc20 kV20 dc20 pm20 cd20 ct20 : Value}
    {f21 : Addr} {od21 an21 : Option Addr} {sl21 : Array (Option Value)} {oc21 kV21 dc21 pm21 cd21 ct21 : Value}
    {f22 : Addr} {od22 an22 : Option Addr} {sl22 : Array (Option Value)} {oc22 kV22 dc22 pm22 cd22 ct22 : Value}
    {f23 : Addr} {od23 an23 : Option Addr} {sl23 : Array (Option Value)} {oc23 kV23 dc23 pm23 cd23 ct23 : Value}
    {f24 : Addr} {od24 an24 : Option Addr} {sl24 : Array (Option Value)} {oc24 kV24 dc24 pm24 cd24 ct24 : Value}
    {t_BROAD : Tok}
    {t_THIN : Tok}
    (a0 : PySem.W.nsIn K mainGlobals "_law_mixed" = some (some (.ref f0))) (l0 : K.lookup f0 = some ⟨oc0, od0, .func (PySem.W.fnOf "_law_mixed" "_law_mixed" (defArgs s__law_mixed) (defBody s__law_mixed) (defScope s__law_mixed) .none kV0 dc0 pm0 an0 cd0 ct0), sl0⟩) (c0 : PySem.W.codeIn K cd0 "_law_mixed" = true) (k0 : PySem.W.keepIn K (.ref f0) = true)
    (a1 : PySem.W.nsIn K mainGlobals "_law_source" = some (some (.ref f1))) (l1 : K.lookup f1 = some ⟨oc1, od1, .func (PySem.W.fnOf "_law_source" "_law_source" (defArgs s__law_source) (defBody s__law_source) (defScope s__law_source) .none kV1 dc1 pm1 an1 cd1 ct1), sl1⟩) (c1 : PySem.W.codeIn K cd1 "_law_source" = true) (k1 : PySem.W.keepIn K (.ref f1) = true)
    (a2 : PySem.W.nsIn K mainGlobals "_law_cell" = some (some (.ref f2))) (l2 : K.lookup f2 = some ⟨oc2, od2, .func (PySem.W.fnOf "_law_cell" "_law_cell" (defArgs s__law_cell) (defBody s__law_cell) (defScope s__law_cell) .none kV2 dc2 pm2 an2 cd2 ct2), sl2⟩) (c2 : PySem.W.codeIn K cd2 "_law_cell" = true) (k2 : PySem.W.keepIn K (.ref f2) = true)
    (a3 : PySem.W.nsIn K mainGlobals "_law_chars" = some (some (.ref f3))) (l3 : K.lookup f3 = some ⟨oc3, od3, .func (PySem.W.fnOf "_law_chars" "_law_chars" (defArgs s__law_chars) (defBody s__law_chars) (defScope s__law_chars) .none kV3 dc3 pm3 an3 cd3 ct3), sl3⟩) (c3 : PySem.W.codeIn K cd3 "_law_chars" = true) (k3 : PySem.W.keepIn K (.ref f3) = true)
    (a4 : PySem.W.nsIn K mainGlobals "_law_piece" = some (some (.ref f4))) (l4 : K.lookup f4 = some ⟨oc4, od4, .func (PySem.W.fnOf "_law_piece" "_law_piece" (defArgs s__law_piece) (defBody s__law_piece) (defScope s__law_piece) .none kV4 dc4 pm4 an4 cd4 ct4), sl4⟩) (c4 : PySem.W.codeIn K cd4 "_law_piece" = true) (k4 : PySem.W.keepIn K (.ref f4) = true)
    (a5 : PySem.W.nsIn K mainGlobals "_law_text" = some (some (.ref f5))) (l5 : K.lookup f5 = some ⟨oc5, od5, .func (PySem.W.fnOf "_law_text" "_law_text" (defArgs s__law_text) (defBody s__law_text) (defScope s__law_text) .none kV5 dc5 pm5 an5 cd5 ct5), sl5⟩) (c5 : PySem.W.codeIn K cd5 "_law_text" = true) (k5 : PySem.W.keepIn K (.ref f5) = true)
    (a6 : PySem.W.nsIn K mainGlobals "_law_advance" = some (some (.ref f6))) (l6 : K.lookup f6 = some ⟨oc6, od6, .func (PySem.W.fnOf "_law_advance" "_law_advance" (defArgs s__law_advance) (defBody s__law_advance) (defScope s__law_advance) .none kV6 dc6 pm6 an6 cd6 ct6), sl6⟩) (c6 : PySem.W.codeIn K cd6 "_law_advance" = true) (k6 : PySem.W.keepIn K (.ref f6) = true)
    (a7 : PySem.W.nsIn K mainGlobals "_law_extent" = some (some (.ref f7))) (l7 : K.lookup f7 = some ⟨oc7, od7, .func (PySem.W.fnOf "_law_extent" "_law_extent" (defArgs s__law_extent) (defBody s__law_extent) (defScope s__law_extent) .none kV7 dc7 pm7 an7 cd7 ct7), sl7⟩) (c7 : PySem.W.codeIn K cd7 "_law_extent" = true) (k7 : PySem.W.keepIn K (.ref f7) = true)
    (a8 : PySem.W.nsIn K mainGlobals "_law_room" = some (some (.ref f8))) (l8 : K.lookup f8 = some ⟨oc8, od8, .func (PySem.W.fnOf "_law_room" "_law_room" (defArgs s__law_room) (defBody s__law_room) (defScope s__law_room) .none kV8 dc8 pm8 an8 cd8 ct8), sl8⟩) (c8 : PySem.W.codeIn K cd8 "_law_room" = true) (k8 : PySem.W.keepIn K (.ref f8) = true)
    (a9 : PySem.W.nsIn K mainGlobals "units" = some (some (.ref f9))) (l9 : K.lookup f9 = some ⟨oc9, od9, .func (PySem.W.fnOf "units" "units" (defArgs s_units) (defBody s_units) (defScope s_units) .none kV9 dc9 pm9 an9 cd9 ct9), sl9⟩) (c9 : PySem.W.codeIn K cd9 "units" = true) (k9 : PySem.W.keepIn K (.ref f9) = true)
    (a10 : PySem.W.nsIn K mainGlobals "advance" = some (some (.ref f10))) (l10 : K.lookup f10 = some ⟨oc10, od10, .func (PySem.W.fnOf "advance" "advance" (defArgs s_advance) (defBody s_advance) (defScope s_advance) .none kV10 dc10 pm10 an10 cd10 ct10), sl10⟩) (c10 : PySem.W.codeIn K cd10 "advance" = true) (k10 : PySem.W.keepIn K (.ref f10) = true)
    (a11 : PySem.W.nsIn K mainGlobals "offsets" = some (some (.ref f11))) (l11 : K.lookup f11 = some ⟨oc11, od11, .func (PySem.W.fnOf "offsets" "offsets" (defArgs s_offsets) (defBody s_offsets) (defScope s_offsets) .none kV11 dc11 pm11 an11 cd11 ct11), sl11⟩) (c11 : PySem.W.codeIn K cd11 "offsets" = true) (k11 : PySem.W.keepIn K (.ref f11) = true)
    (a12 : PySem.W.nsIn K mainGlobals "paragraphs" = some (some (.ref f12))) (l12 : K.lookup f12 = some ⟨oc12, od12, .func (PySem.W.fnOf "paragraphs" "paragraphs" (defArgs s_paragraphs) (defBody s_paragraphs) (defScope s_paragraphs) .none kV12 dc12 pm12 an12 cd12 ct12), sl12⟩) (c12 : PySem.W.codeIn K cd12 "paragraphs" = true) (k12 : PySem.W.keepIn K (.ref f12) = true)
    (a13 : PySem.W.nsIn K mainGlobals "break_paragraph" = some (some (.ref f13))) (l13 : K.lookup f13 = some ⟨oc13, od13, .func (PySem.W.fnOf "break_paragraph" "break_paragraph" (defArgs s_break_paragraph) (defBody s_break_paragraph) (defScope s_break_paragraph) .none kV13 dc13 pm13 an13 cd13 ct13), sl13⟩) (c13 : PySem.W.codeIn K cd13 "break_paragraph" = true) (k13 : PySem.W.keepIn K (.ref f13) = true)
    (a14 : PySem.W.nsIn K mainGlobals "words" = some (some (.ref f14))) (l14 : K.lookup f14 = some ⟨oc14, od14, .func (PySem.W.fnOf "words" "words" (defArgs s_words) (defBody s_words) (defScope s_words) .none kV14 dc14 pm14 an14 cd14 ct14), sl14⟩) (c14 : PySem.W.codeIn K cd14 "words" = true) (k14 : PySem.W.keepIn K (.ref f14) = true)
    (a15 : PySem.W.nsIn K mainGlobals "break_lines" = some (some (.ref f15))) (l15 : K.lookup f15 = some ⟨oc15, od15, .func (PySem.W.fnOf "break_lines" "break_lines" (defArgs s_break_lines) (defBody s_break_lines) (defScope s_break_lines) .none kV15 dc15 pm15 an15 cd15 ct15), sl15⟩) (c15 : PySem.W.codeIn K cd15 "break_lines" = true) (k15 : PySem.W.keepIn K (.ref f15) = true)
    (a16 : PySem.W.nsIn K mainGlobals "ends_paragraph" = some (some (.ref f16))) (l16 : K.lookup f16 = some ⟨oc16, od16, .func (PySem.W.fnOf "ends_paragraph" "ends_paragraph" (defArgs s_ends_paragraph) (defBody s_ends_paragraph) (defScope s_ends_paragraph) .none kV16 dc16 pm16 an16 cd16 ct16), sl16⟩) (c16 : PySem.W.codeIn K cd16 "ends_paragraph" = true) (k16 : PySem.W.keepIn K (.ref f16) = true)
    (a17 : PySem.W.nsIn K mainGlobals "justified" = some (some (.ref f17))) (l17 : K.lookup f17 = some ⟨oc17, od17, .func (PySem.W.fnOf "justified" "justified" (defArgs s_justified) (defBody s_justified) (defScope s_justified) .none kV17 dc17 pm17 an17 cd17 ct17), sl17⟩) (c17 : PySem.W.codeIn K cd17 "justified" = true) (k17 : PySem.W.keepIn K (.ref f17) = true)
    (a18 : PySem.W.nsIn K mainGlobals "place_line" = some (some (.ref f18))) (l18 : K.lookup f18 = some ⟨oc18, od18, .func (PySem.W.fnOf "place_line" "place_line" (defArgs s_place_line) (defBody s_place_line) (defScope s_place_line) .none (.ref D18) dc18 pm18 an18 cd18 ct18), sl18⟩) (c18 : PySem.W.codeIn K cd18 "place_line" = true) (k18 : PySem.W.keepIn K (.ref f18) = true)
    (d18_align : PySem.W.nsIn K D18 "align" = some (some (.str "left" td18_align)))
    (a19 : PySem.W.nsIn K mainGlobals "_law_is_integer" = some (some (.ref f19))) (l19 : K.lookup f19 = some ⟨oc19, od19, .func (PySem.W.fnOf "_law_is_integer" "_law_is_integer" (defArgs s__law_is_integer) (defBody s__law_is_integer) (defScope s__law_is_integer) .none kV19 dc19 pm19 an19 cd19 ct19), sl19⟩) (c19 : PySem.W.codeIn K cd19 "_law_is_integer" = true) (k19 : PySem.W.keepIn K (.ref f19) = true)
    (a20 : PySem.W.nsIn K mainGlobals "_law_gains" = some (some (.ref f20))) (l20 : K.lookup f20 = some ⟨oc20, od20, .func (PySem.W.fnOf "_law_gains" "_law_gains" (defArgs s__law_gains) (defBody s__law_gains) (defScope s__law_gains) .none kV20 dc20 pm20 an20 cd20 ct20), sl20⟩) (c20 : PySem.W.codeIn K cd20 "_law_gains" = true) (k20 : PySem.W.keepIn K (.ref f20) = true)
    (a21 : PySem.W.nsIn K mainGlobals "_law_is_even" = some (some (.ref f21))) (l21 : K.lookup f21 = some ⟨oc21, od21, .func (PySem.W.fnOf "_law_is_even" "_law_is_even" (defArgs s__law_is_even) (defBody s__law_is_even) (defScope s__law_is_even) .none kV21 dc21 pm21 an21 cd21 ct21), sl21⟩) (c21 : PySem.W.codeIn K cd21 "_law_is_even" = true) (k21 : PySem.W.keepIn K (.ref f21) = true)
    (a22 : PySem.W.nsIn K mainGlobals "_law_is_blank" = some (some (.ref f22))) (l22 : K.lookup f22 = some ⟨oc22, od22, .func (PySem.W.fnOf "_law_is_blank" "_law_is_blank" (defArgs s__law_is_blank) (defBody s__law_is_blank) (defScope s__law_is_blank) .none kV22 dc22 pm22 an22 cd22 ct22), sl22⟩) (c22 : PySem.W.codeIn K cd22 "_law_is_blank" = true) (k22 : PySem.W.keepIn K (.ref f22) = true)
    (a23 : PySem.W.nsIn K mainGlobals "_law_rest" = some (some (.ref f23))) (l23 : K.lookup f23 = some ⟨oc23, od23, .func (PySem.W.fnOf "_law_rest" "_law_rest" (defArgs s__law_rest) (defBody s__law_rest) (defScope s__law_rest) .none kV23 dc23 pm23 an23 cd23 ct23), sl23⟩) (c23 : PySem.W.codeIn K cd23 "_law_rest" = true) (k23 : PySem.W.keepIn K (.ref f23) = true)
    (a24 : PySem.W.nsIn K mainGlobals "law" = some (some (.ref f24))) (l24 : K.lookup f24 = some ⟨oc24, od24, .func (PySem.W.fnOf "law" "law" (defArgs s_law) (defBody s_law) (defScope s_law) .none kV24 dc24 pm24 an24 cd24 ct24), sl24⟩) (c24 : PySem.W.codeIn K cd24 "law" = true) (k24 : PySem.W.keepIn K (.ref f24) = true)
    (z_int : PySem.W.nsIn K mainGlobals "int" = some none)
    (z_len : PySem.W.nsIn K mainGlobals "len" = some none)
    (z_range : PySem.W.nsIn K mainGlobals "range" = some none)
    (z_sum : PySem.W.nsIn K mainGlobals "sum" = some none)
    (z_max : PySem.W.nsIn K mainGlobals "max" = some none)
    (z_min : PySem.W.nsIn K mainGlobals "min" = some none)
    (z_bool : PySem.W.nsIn K mainGlobals "bool" = some none)
    (z_isinstance : PySem.W.nsIn K mainGlobals "isinstance" = some none)
    (z_list : PySem.W.nsIn K mainGlobals "list" = some none)
    (c_BROAD : PySem.W.nsIn K mainGlobals "BROAD" = some (some (.str "mwMW@" t_BROAD)))
    (c_THIN : PySem.W.nsIn K mainGlobals "THIN" = some (some (.str " .,':;!|ijl" t_THIN))) :
    ∃ fd : FuncData, (∀ (s : Shared) (v : Value), BindsTo s fd ⟨[v], []⟩ [("script", v)]) ∧ ∀ base : Heap, K.In base → base.Ns mainGlobals mg → FnOk l.prog w K mg base CX0 5 fa fd ["script"] (spD K .val [.scr] F_law) := by
  have e := hfa.symm.trans (PySem.W.mg_of X G a24)
  cases e
  have F0 := fun_mk (st := s__law_mixed) l0 c0 k0
  have F1 := fun_mk (st := s__law_source) l1 c1 k1
  have F2 := fun_mk (st := s__law_cell) l2 c2 k2
  have F3 := fun_mk (st := s__law_chars) l3 c3 k3
  have F4 := fun_mk (st := s__law_piece) l4 c4 k4
  have F5 := fun_mk (st := s__law_text) l5 c5 k5
  have F6 := fun_mk (st := s__law_advance) l6 c6 k6
  have F7 := fun_mk (st := s__law_extent) l7 c7 k7
  have F8 := fun_mk (st := s__law_room) l8 c8 k8
  have F9 := fun_mk (st := s_units) l9 c9 k9
  have F10 := fun_mk (st := s_advance) l10 c10 k10
  have F11 := fun_mk (st := s_offsets) l11 c11 k11
  have F12 := fun_mk (st := s_paragraphs) l12 c12 k12
  have F13 := fun_mk (st := s_break_paragraph) l13 c13 k13
  have F14 := fun_mk (st := s_words) l14 c14 k14
  have F15 := fun_mk (st := s_break_lines) l15 c15 k15
  have F16 := fun_mk (st := s_ends_paragraph) l16 c16 k16
  have F17 := fun_mk (st := s_justified) l17 c17 k17
  have F18 := fun_mk (st := s_place_line) l18 c18 k18
  have F19 := fun_mk (st := s__law_is_integer) l19 c19 k19
  have F20 := fun_mk (st := s__law_gains) l20 c20 k20
  have F21 := fun_mk (st := s__law_is_even) l21 c21 k21
  have F22 := fun_mk (st := s__law_is_blank) l22 c22 k22
  have F23 := fun_mk (st := s__law_rest) l23 c23 k23
  have F24 := fun_mk (st := s_law) l24 c24 k24
  refine ⟨PySem.W.fnOf "law" "law" (defArgs s_law) (defBody s_law) (defScope s_law) .none kV24 dc24 pm24 an24 cd24 ct24, fun s v => .of_eq rfl, fun base _ _ => ?_⟩
  have C__law_mixed : Fn1 l.prog w K mg base "_law_mixed" ["cell"] 1 .val [.bor] F__law_mixed := ⟨_, _, ok__law_mixed F0 (PySem.W.mg_none_of X G z_int), PySem.W.mg_of X G a0, k0, F0.binds (ps := ["cell"]) fun _ _ _ _ _ _ us hl => match us, hl with | [_], _ => rfl⟩
  have C__law_source : Fn1 l.prog w K mg base "_law_source" ["cell"] 2 .val [.bor] F__law_source := ⟨_, _, ok__law_source F1 C__law_mixed, PySem.W.mg_of X G a1, k1, F1.binds (ps := ["cell"]) fun _ _ _ _ _ _ us hl => match us, hl with | [_], _ => rfl⟩
  have C__law_cell : Fn1 l.prog w K mg base "_law_cell" ["script", "k"] 1 .val [.scr, .val] F__law_cell := ⟨_, _, ok__law_cell F2 (PySem.W.mg_none_of X G z_len), PySem.W.mg_of X G a2, k2, F2.binds (ps := ["script", "k"]) fun _ _ _ _ _ _ us hl => match us, hl with | [_, _], _ => rfl⟩
  have C__law_chars : Fn1 l.prog w K mg base "_law_chars" [] 1 .val [] F__law_chars := ⟨_, _, ok__law_chars F3, PySem.W.mg_of X G a3, k3, F3.binds (ps := []) fun _ _ _ _ _ _ us hl => match us, hl with | [], _ => rfl⟩
  have C__law_piece : Fn1 l.prog w K mg base "_law_piece" ["cell"] 2 .val [.bor] F__law_piece := ⟨_, _, ok__law_piece F4 C__law_chars C__law_mixed (PySem.W.mg_none_of X G z_int) (PySem.W.mg_none_of X G z_range), PySem.W.mg_of X G a4, k4, F4.binds (ps := ["cell"]) fun _ _ _ _ _ _ us hl => match us, hl with | [_], _ => rfl⟩
  have C__law_text : Fn1 l.prog w K mg base "_law_text" ["script", "first"] 3 .val [.scr, .val] F__law_text := ⟨_, _, ok__law_text F5 C__law_source C__law_cell C__law_piece (PySem.W.mg_none_of X G z_int) (PySem.W.mg_none_of X G z_range), PySem.W.mg_of X G a5, k5, F5.binds (ps := ["script", "first"]) fun _ _ _ _ _ _ us hl => match us, hl with | [_, _], _ => rfl⟩
  have C__law_advance : Fn1 l.prog w K mg base "_law_advance" ["char", "scale"] 1 .val [.bor, .val] F__law_advance := ⟨_, _, ok__law_advance F6, PySem.W.mg_of X G a6, k6, F6.binds (ps := ["char", "scale"]) fun _ _ _ _ _ _ us hl => match us, hl with | [_, _], _ => rfl⟩
  have C__law_extent : Fn1 l.prog w K mg base "_law_extent" ["text", "scale"] 2 .val [.bor, .val] F__law_extent := ⟨_, _, ok__law_extent F7 C__law_advance (PySem.W.mg_none_of X G z_sum), PySem.W.mg_of X G a7, k7, F7.binds (ps := ["text", "scale"]) fun _ _ _ _ _ _ us hl => match us, hl with | [_, _], _ => rfl⟩
  have C__law_room : Fn1 l.prog w K mg base "_law_room" ["cell", "text", "scale"] 3 .val [.bor, .bor, .val] F__law_room := ⟨_, _, ok__law_room F8 C__law_source C__law_extent (PySem.W.mg_none_of X G z_int) (PySem.W.mg_none_of X G z_len) (PySem.W.mg_none_of X G z_max) (PySem.W.mg_none_of X G z_min), PySem.W.mg_of X G a8, k8, F8.binds (ps := ["cell", "text", "scale"]) fun _ _ _ _ _ _ us hl => match us, hl with | [_, _, _], _ => rfl⟩
  have C_units : Fn1 l.prog w K mg base "units" ["char"] 1 .val [.bor] F_units := ⟨_, _, ok_units F9 (PySem.W.mg_of X G c_BROAD) (PySem.W.mg_of X G c_THIN), PySem.W.mg_of X G a9, k9, F9.binds (ps := ["char"]) fun _ _ _ _ _ _ us hl => match us, hl with | [_], _ => rfl⟩
  have C_advance : Fn1 l.prog w K mg base "advance" ["char", "size"] 2 .val [.bor, .bor] F_advance := ⟨_, _, ok_advance F10 C_units, PySem.W.mg_of X G a10, k10, F10.binds (ps := ["char", "size"]) fun _ _ _ _ _ _ us hl => match us, hl with | [_, _], _ => rfl⟩
  have C_offsets : Fn1 l.prog w K mg base "offsets" ["string", "size"] 3 .new [.bor, .bor] F_offsets := ⟨_, _, ok_offsets F11 C_advance, PySem.W.mg_of X G a11, k11, F11.binds (ps := ["string", "size"]) fun _ _ _ _ _ _ us hl => match us, hl with | [_, _], _ => rfl⟩
  have C_paragraphs : Fn1 l.prog w K mg base "paragraphs" ["string"] 1 .new [.bor] F_paragraphs := ⟨_, _, ok_paragraphs F12 (PySem.W.mg_none_of X G z_len), PySem.W.mg_of X G a12, k12, F12.binds (ps := ["string"]) fun _ _ _ _ _ _ us hl => match us, hl with | [_], _ => rfl⟩
  have C_break_paragraph : Fn1 l.prog w K mg base "break_paragraph" ["parts", "start", "sums", "width"] 1 .new [.bor, .val, .bor, .bor] F_break_paragraph := ⟨_, _, ok_break_paragraph F13, PySem.W.mg_of X G a13, k13, F13.binds (ps := ["parts", "start", "sums", "width"]) fun _ _ _ _ _ _ us hl => match us, hl with | [_, _, _, _], _ => rfl⟩
  have C_words : Fn1 l.prog w K mg base "words" ["string", "start", "end"] 1 .new [.bor, .val, .val] F_words := ⟨_, _, ok_words F14 (PySem.W.mg_none_of X G z_range), PySem.W.mg_of X G a14, k14, F14.binds (ps := ["string", "start", "end"]) fun _ _ _ _ _ _ us hl => match us, hl with | [_, _, _], _ => rfl⟩
  have C_break_lines : Fn1 l.prog w K mg base "break_lines" ["string", "size", "width"] 4 .new [.bor, .bor, .bor] F_break_lines := ⟨_, _, ok_break_lines F15 C_offsets C_paragraphs C_break_paragraph C_words, PySem.W.mg_of X G a15, k15, F15.binds (ps := ["string", "size", "width"]) fun _ _ _ _ _ _ us hl => match us, hl with | [_, _, _], _ => rfl⟩
  have C_ends_paragraph : Fn1 l.prog w K mg base "ends_paragraph" ["string", "line"] 1 .val [.bor, .bor] F_ends_paragraph := ⟨_, _, ok_ends_paragraph F16, PySem.W.mg_of X G a16, k16, F16.binds (ps := ["string", "line"]) fun _ _ _ _ _ _ us hl => match us, hl with | [_, _], _ => rfl⟩
  have C_justified : Fn1M l.prog w K mg base "justified" ["part", "sums", "rest"] 1 .new [.val, .new, .val] F_justified := ⟨_, _, ok_justified F17 (PySem.W.mg_none_of X G z_len) (PySem.W.mg_none_of X G z_min) (PySem.W.mg_none_of X G z_range), PySem.W.mg_of X G a17, k17, F17.binds (ps := ["part", "sums", "rest"]) fun _ _ _ _ _ _ us hl => match us, hl with | [_, _, _], _ => rfl⟩
  have FD18 : FunD K "place_line" "place_line" (defArgs s_place_line) (defBody s_place_line) (defScope s_place_line) [] [("align", V.str "left")] f18 (PySem.W.fnOf "place_line" "place_line" (defArgs s_place_line) (defBody s_place_line) (defScope s_place_line) .none (.ref D18) dc18 pm18 an18 cd18 ct18) := ⟨⟨_, _, _, _, _, _, _, _, _, _, rfl, l18, c18, .inl ⟨rfl, rfl⟩, .inr ⟨D18, rfl, fun q hq => by cases List.mem_singleton.mp hq; exact ⟨_, d18_align, ⟨_, rfl⟩⟩⟩⟩, k18⟩
  have C_place_line_0 : FnKw l.prog w K mg base "place_line" ["string", "line", "size", "width", "align"] 4 .new [.bor, .bor, .bor, .bor, .bor] F_place_line 2 ["size", "width", "align"] [] := by
    obtain ⟨mv, hb⟩ := FD18.kbinds0 (ps := ["string", "line", "size", "width", "align"]) 2 ["size", "width", "align"] [] (fun us mv ws => us ++ (ws ++ mv)) (by simp) (by simp) (fun a b c => a.append (c.append b)) (fun D doc pm an cdv ct us mv ws hu hm hw => match us, mv, ws, hu, hm, hw with | [_, _], [], [_, _, _], _, _, _ => rfl)
    exact ⟨_, _, _, ok_place_line F18 C_offsets C_ends_paragraph C_justified (PySem.W.mg_none_of X G z_max), PySem.W.mg_of X G a18, k18, hb⟩
  have C__law_is_integer : Fn1 l.prog w K mg base "_law_is_integer" ["value"] 1 .val [.bor] F__law_is_integer := ⟨_, _, ok__law_is_integer F19 (PySem.W.mg_none_of X G z_bool) (PySem.W.mg_none_of X G z_int) (PySem.W.mg_none_of X G z_isinstance), PySem.W.mg_of X G a19, k19, F19.binds (ps := ["value"]) fun _ _ _ _ _ _ us hl => match us, hl with | [_], _ => rfl⟩
  have C__law_gains : Fn1 l.prog w K mg base "_law_gains" ["places", "part", "scale"] 2 .val [.bor, .bor, .val] F__law_gains := ⟨_, _, ok__law_gains F20 C__law_advance (PySem.W.mg_none_of X G z_len) (PySem.W.mg_none_of X G z_range), PySem.W.mg_of X G a20, k20, F20.binds (ps := ["places", "part", "scale"]) fun _ _ _ _ _ _ us hl => match us, hl with | [_, _, _], _ => rfl⟩
  have C__law_is_even : Fn1 l.prog w K mg base "_law_is_even" ["gains"] 1 .val [.bor] F__law_is_even := ⟨_, _, ok__law_is_even F21 (PySem.W.mg_none_of X G z_len) (PySem.W.mg_none_of X G z_range), PySem.W.mg_of X G a21, k21, F21.binds (ps := ["gains"]) fun _ _ _ _ _ _ us hl => match us, hl with | [_], _ => rfl⟩
  have C__law_is_blank : Fn1 l.prog w K mg base "_law_is_blank" ["text"] 1 .val [.bor] F__law_is_blank := ⟨_, _, ok__law_is_blank F22, PySem.W.mg_of X G a22, k22, F22.binds (ps := ["text"]) fun _ _ _ _ _ _ us hl => match us, hl with | [_], _ => rfl⟩
  have C__law_rest : Fn1 l.prog w K mg base "_law_rest" ["text", "at"] 1 .val [.bor, .val] F__law_rest := ⟨_, _, ok__law_rest F23, PySem.W.mg_of X G a23, k23, F23.binds (ps := ["text", "at"]) fun _ _ _ _ _ _ us hl => match us, hl with | [_, _], _ => rfl⟩
  exact ok_law F24 C_place_line_0 C__law_text C__law_source C__law_cell C__law_room C_break_lines C__law_is_integer C__law_gains C__law_is_even C__law_extent C__law_is_blank C__law_rest (PySem.W.mg_none_of X G z_int) (PySem.W.mg_none_of X G z_isinstance) (PySem.W.mg_none_of X G z_len) (PySem.W.mg_none_of X G z_list) (PySem.W.mg_none_of X G z_max)
end Lw

namespace Lw
open PySem L2 DV
def onceV (c : Int) : Int := (c * 48271 + 12345) % 2147483647
def twiceV (c : Int) : Int := (onceV c * onceV c + 7 * onceV c + 3) % 2305843009213693951
def mixV (c : Int) : Int := (twiceV c * 16807 + 11) % 2305843009213693951
theorem onceV_b (c : Int) : 0 ≤ onceV c ∧ onceV c < 2147483647 := ⟨Int.emod_nonneg _ (by decide), Int.emod_lt_of_pos _ (by decide)⟩
theorem twiceV_b (c : Int) : 0 ≤ twiceV c ∧ twiceV c < 2305843009213693951 := ⟨Int.emod_nonneg _ (by decide), Int.emod_lt_of_pos _ (by decide)⟩
theorem mixV_b (c : Int) : 0 ≤ mixV c ∧ mixV c < 2305843009213693951 := ⟨Int.emod_nonneg _ (by decide), Int.emod_lt_of_pos _ (by decide)⟩
theorem mixed_eq (c : Int) : F__law_mixed [.int c] = some (.int (mixV c)) := by
  have h1 := onceV_b c
  have h2 := twiceV_b c
  refine box_rt rfl ?_
  unfold B__law_mixed
  rw [seq_nx (ρ' := [.bor (.int c), .val (.int (onceV c)), .un]) (by simp (disch := omega) [oMul_r]; rfl)]
  rw [seq_nx (ρ' := [.bor (.int c), .val (.int (onceV c)), .val (.int (twiceV c))]) (by simp (disch := omega) [oMul_r]; rfl)]
  simp (disch := omega) [oMul_r]; rfl
def srcV (c : Int) : Int := if 1000000000000000000 ≤ c then c - 1000000000000000000 else mixV c
theorem srcV_b (c : Int) : 0 ≤ srcV c := by
  unfold srcV
  have := mixV_b c
  split <;> omega
theorem source_eq (c : Int) : F__law_source [.int c] = some (.int (srcV c)) := by
  refine box_rt rfl ?_
  unfold srcV
  by_cases h : 1000000000000000000 ≤ c
  · simp (disch := omega) [B__law_source, h]
  · simp (disch := omega) [B__law_source, h, mixed_eq]
def cellV (ns : List Int) (k : Nat) : Int := ns.getD k 0
theorem cell_eq (ns : List Int) (k : Nat) : F__law_cell [.list (ns.map .int), .int (k : Nat)] = some (.int (cellV ns k)) := by
  refine box_rt rfl ?_
  unfold cellV
  by_cases h : k < ns.length
  · simp (disch := omega) [B__law_cell, h, atI_pos]
  · simp (disch := omega) [B__law_cell, h]
theorem eLc_eq {fi : SI} {vs : List Nat} {ρ : Rho} {g : SG} {t : SB} {e : SE} {ds ys : List PyData} (h1 : fi ρ = some ds) (h2 : lcGo g t e (wipeR ρ vs) ds = some ys) (h3 : ys.length ≤ 4096) : eLc fi g t e vs ρ = some (.list ys) := by
  rw [eLc_r, h1]
  show (lcGo g t e (wipeR ρ vs) ds).bind _ = _
  rw [h2]
  exact if_pos (by rw [sizeLine_eq]; omega)
theorem sSet_eq {ρ : Rho} {e : SE} {d : PyData} {k : Nat} (h : e ρ = some d) (hk : k < ρ.length) : sSet k e ρ = some (.nx (ρ.set k (.val d))) := by
  rw [sSet_r, h]; exact if_pos hk
theorem sOwn_eq {ρ : Rho} {e : SE} {d : PyData} {k : Nat} (h : e ρ = some d) (hk : k < ρ.length) : sOwn k e ρ = some (.nx (ρ.set k (.own d))) := by
  rw [sOwn_r, h]; exact if_pos hk
theorem eCall1_eq {F : List PyData → Option PyData} {ρ : Rho} {e : SE} {d r : PyData} (h : e ρ = some d) (hF : F [d] = some r) : eCall F (aCons e aNil) ρ = some r := by
  rw [eCall_r, aCons_r, h]; exact hF
theorem sFor_eq {fi : SI} {g : SG} {b : SS} {ρ : Rho} {ds : List PyData} (h : fi ρ = some ds) : sFor fi g b ρ = forGo g b ds ρ := by
  rw [sFor_r, h]; rfl
theorem sArgs_eq {F : List PyData → Option (List PyData)} {r : SA} {ρ : Rho} {ds ds' : List PyData} (h1 : r ρ = some ds) (h2 : F ds = some ds') : sArgs F r ρ = some ds' := by
  rw [sArgs_r, h1]; exact h2
theorem rng1_n (n : Nat) (h : n ≤ 4096) : rng1 [.int (n : Nat)] = some (rangeD 0 n) := by
  rw [rng1_r (by omega) (by omega), Int.toNat_natCast]
theorem rangeD_cons (a n : Nat) : rangeD (a : Nat) (n + 1) = .int (a : Nat) :: rangeD ((a + 1 : Nat) : Int) n := by
  rw [rangeD_map, rangeD_map, List.range_succ_eq_map, List.map_cons, List.map_cons, List.map_map, List.map_map, List.map_map]
  have e : ∀ i : Nat, ((a : Int) + ((i + 1 : Nat) : Int)) = ((a + 1 : Nat) : Int) + (i : Int) := fun i => by omega
  have e0 : (a : Int) + ((0 : Nat) : Int) = (a : Int) := by omega
  refine congr (congrArg _ ?_) (List.map_congr_left fun i _ => ?_)
  · show PyData.int ((a : Int) + ((0 : Nat) : Int)) = _
    rw [e0]
  · show PyData.int ((a : Int) + ((i + 1 : Nat) : Int)) = PyData.int (((a + 1 : Nat) : Int) + (i : Int))
    rw [e]
theorem rangeD_down (L n : Nat) (h : n + 1 ≤ L) : rangeD ((L - (n + 1) : Nat) : Int) (n + 1) = .int ((L - (n + 1) : Nat) : Int) :: rangeD ((L - n : Nat) : Int) n := by
  rw [rangeD_cons, show L - (n + 1) + 1 = L - n by omega]
/-! ### texts, by their signs -/
def tS (l : List Nat) : PyData := .str ⟨l.toArray⟩
theorem tLen1 (l : List Nat) : (⟨l.toArray⟩ : Str).length = l.length := by simp [Str.length]
theorem tAdd (a b : List Nat) (h : a.length + b.length ≤ 1000000) : oAdd (tS a) (tS b) = some (tS (a ++ b)) := by
  unfold tS oAdd
  simp only []
  rw [tLen1, tLen1, if_pos (by rw [sizeLine_eq]; omega)]
  congr 2
  show (⟨a.toArray ++ b.toArray⟩ : Str) = _
  rw [List.append_toArray]
theorem tIx (l : List Nat) (i : Int) (c : Nat) (hl : l.length ≤ 1000000) (h : atI l i = some c) : oIx (tS l) (.int i) = some (tS [c]) := by
  unfold tS oIx
  simp only []
  rw [tLen1, if_pos (by rw [sizeLine_eq]; omega), h]; rfl
theorem tMul (l : List Nat) (n : Int) (h0 : 0 ≤ n) (h1 : n ≤ 1000) (h2 : l.length ≤ 10000) : oMulS (tS l) (.int n) = some (tS (List.replicate n.toNat l).flatten) := by
  unfold tS oMulS
  simp only []
  rw [if_pos ⟨h0, h1, by rw [tLen1]; exact h2⟩]; rfl
theorem tSl (l : List Nat) (lo hi : Option Int) (hl : l.length ≤ 1000000) : oSl (tS l) lo hi = some (tS (cutG l lo hi)) := by
  unfold tS oSl
  simp only []
  rw [tLen1, if_pos (by rw [sizeLine_eq]; omega)]
  congr 2
theorem tLen (l : List Nat) (h : l.length ≤ 1000000) : cLen [tS l] = some (.int (l.length : Nat)) := by
  unfold tS cLen
  simp only []
  rw [tLen1, if_pos (by rw [sizeLine_eq]; omega)]
theorem tItems (l : List Nat) : itemsOf (tS l) = some (l.map fun c => tS [c]) := rfl
theorem tOk {l : List Nat} (h : ∀ c ∈ l, c < 128) : PyData.strOk ⟨l.toArray⟩ = true := by
  unfold PyData.strOk
  simp
  intro c hc
  exact Nat.lt_trans (h c hc) (by decide)
theorem tEq {a b : List Nat} (ha : ∀ c ∈ a, c < 128) (hb : ∀ c ∈ b, c < 128) : oEq (tS a) (tS b) = some (.bool (decide (a = b))) := by
  have h1 : clean 9 (tS a) = true := by simpa [tS, clean] using tOk ha
  have h2 : clean 9 (tS b) = true := by simpa [tS, clean] using tOk hb
  rw [oEq_c h1 h2, eqv_dec h1 h2 (a = b) (by simp [tS])]
theorem tIn (c : Nat) (l : List Nat) : oIn (tS [c]) (tS l) = some (.bool (decide (c ∈ l))) := by
  unfold tS oIn oInS
  simp
def THINs : List Nat := [32, 46, 44, 39, 58, 59, 33, 124, 105, 106, 108]
def BROADs : List Nat := [109, 119, 77, 87, 64]
theorem lit (x : String) (l : List Nat) (h : Str.ofString x = ⟨l.toArray⟩) : PyData.str (Str.ofString x) = tS l := by rw [h]; rfl
theorem lit_thin : PyData.str (Str.ofString " .,':;!|ijl") = tS THINs := lit _ _ (by decide +kernel)
theorem lit_broad : PyData.str (Str.ofString "mwMW@") = tS BROADs := lit _ _ (by decide +kernel)
theorem lit_nl : PyData.str (Str.ofString "\n") = tS [10] := lit _ _ (by decide +kernel)
theorem lit_sp : PyData.str (Str.ofString " ") = tS [32] := lit _ _ (by decide +kernel)
theorem lit_no : PyData.str (Str.ofString "") = tS [] := lit _ _ (by decide +kernel)
def A1 : List Nat := [32, 33, 34, 35, 36, 38, 39, 40, 41, 42, 43, 44, 45, 46, 47, 48, 49, 50, 51, 52, 53, 54, 55, 56, 57, 58, 59, 60, 61, 62, 63, 64, 65, 66, 67, 68, 69, 70, 71, 72, 73, 74, 75, 76, 77, 78, 79, 80, 81, 82, 83, 84, 85, 86, 87, 88, 89, 90, 91, 92, 93, 94, 95, 96]
def A2 : List Nat := [97, 98, 99, 100, 101, 102, 103, 104, 105, 106, 107, 108, 109, 110, 111, 112, 113, 114, 115, 116, 117, 118, 119, 120, 121, 122, 123, 124, 125, 126, 10]
theorem lit_a1 : PyData.str (Str.ofString " !\"#$&'()*+,-./0123456789:;<=>?@ABCDEFGHIJKLMNOPQRSTUVWXYZ[\\]^_`") = tS A1 := lit _ _ (by decide +kernel)
theorem lit_a2 : PyData.str (Str.ofString "abcdefghijklmnopqrstuvwxyz{|}~\n") = tS A2 := lit _ _ (by decide +kernel)
def ABC : List Nat := A1 ++ A2
theorem ABC_len : ABC.length = 95 := by decide +kernel
theorem ABC_ok : ∀ c ∈ ABC, c < 128 := by decide +kernel
def Asc (l : List Nat) : Prop := ∀ c ∈ l, c < 128
theorem chars_eq : F__law_chars [] = some (tS ABC) := by
  refine box_rt rfl ?_
  simp only [B__law_chars, lit_a1, lit_a2]
  have := tAdd A1 A2 (by decide +kernel)
  simp [this, ABC]
theorem ABC_at (i : Int) (h0 : 0 ≤ i) (h1 : i < 95) : ∃ c, c < 128 ∧ atI ABC i = some c := by
  obtain ⟨c, h2, h3⟩ := atI_ex (l := ABC) h0 (by rw [ABC_len]; exact h1)
  exact ⟨c, ABC_ok c h2, h3⟩
theorem Asc.app {a b : List Nat} (ha : Asc a) (hb : Asc b) : Asc (a ++ b) := fun c hc => (List.mem_append.mp hc).elim (ha c) (hb c)
theorem Asc.one {c : Nat} (h : c < 128) : Asc [c] := fun x hx => by rw [List.mem_singleton.mp hx]; exact h
theorem Asc.nil : Asc [] := fun x hx => by cases hx
theorem Asc.rep {l : List Nat} (h : Asc l) (n : Nat) : Asc (List.replicate n l).flatten := fun c hc => by
  obtain ⟨k, hk, hc⟩ := List.mem_flatten.mp hc
  rw [(List.mem_replicate.mp hk).2] at hc
  exact h c hc
theorem Asc.cut {l : List Nat} (h : Asc l) (lo hi : Option Int) : Asc (cutG l lo hi) := fun c hc => h c (List.mem_of_mem_drop (List.mem_of_mem_take hc))
theorem pieceGo (b : SS) (R : List Nat → Int → Slot → Rho) (n : Nat) (hn : n ≤ 10) (hg : ∀ l m s d, gV 4 d (R l m s) = some (R l m (.val d)))
    (hb : ∀ l m s, l.length ≤ 10 → 0 ≤ m → ∃ c m', c < 128 ∧ 0 ≤ m' ∧ b (R l m s) = some (.nx (R (l ++ [c]) m' s))) (m : Int) (hm : 0 ≤ m) :
    ∃ l m' s, forGo (gV 4) b (rangeD 0 n) (R [] m .un) = some (.nx (R l m' s)) ∧ l.length = n ∧ Asc l := by
  have key := for_all (ds := rangeD 0 n) (g := gV 4) (b := b) (ρ := R [] m .un) (fun i ρ => ∃ l m' s, ρ = R l m' s ∧ l.length = i ∧ Asc l ∧ 0 ≤ m') ⟨[], m, .un, rfl, rfl, Asc.nil, hm⟩ (by
    rintro i dd ρ hd ⟨l, m', s, rfl, hl, ha, h0⟩
    have hi : i < n := by
      have := (List.getElem?_eq_some_iff.mp hd).1
      rw [rangeD_map, List.length_map, List.length_map, List.length_range] at this
      exact this
    obtain ⟨c, m2, hc, h2, e⟩ := hb l m' (.val dd) (by omega) h0
    exact ⟨_, _, hg _ _ _ _, .inl e, _, _, _, rfl, by simp [hl], ha.app (Asc.one hc), h2⟩)
  obtain ⟨ρ', e, l, m', s, rfl, hl, ha, _⟩ := key
  rw [rangeD_map, List.length_map, List.length_map, List.length_range] at hl
  exact ⟨l, m', s, e, hl, ha⟩
theorem piece_ex (c : Int) : ∃ l, F__law_piece [.int c] = some (tS l) ∧ l.length ≤ 8 ∧ Asc l := by
  have hch := chars_eq
  by_cases hc : 1000000000000000000 ≤ c
  · obtain ⟨l, m', s, e, hl, ha⟩ := pieceGo L__law_piece_1 (fun l m s => [.bor (.int c), .val (tS ABC), .val (tS l), .val (.int m), s, .un, .un]) ((c - 1000000000000000000) % 8).toNat (by omega) (fun _ _ _ _ => rfl) (fun l m s hl hm => by
      obtain ⟨x, hx, ex⟩ := ABC_at (m % 95) (by omega) (by omega)
      refine ⟨x, m / 95, hx, by omega, ?_⟩
      have e1 := tIx ABC (m % 95) x (by rw [ABC_len]; omega) ex
      have e2 := tAdd l [x] (by simp; omega)
      simp (disch := omega) [L__law_piece_1, e1, e2]) ((c - 1000000000000000000) / 8) (by omega)
    refine ⟨l, box_rt rfl ?_, by omega, ha⟩
    unfold B__law_piece
    rw [lit_no]
    rw [seq_nx (ρ' := [.bor (.int c), .val (tS ABC), .un, .un, .un, .un, .un]) (by simp [hch])]
    rw [seq_nx (ρ' := [.bor (.int c), .val (tS ABC), .val (tS []), .un, .un, .un, .un]) (by simp)]
    refine seq_rt ?_
    rw [sIf_r]
    simp (disch := omega) [hc]
    rw [e]
    simp
  · have hm := mixV_b c
    have hmix := mixed_eq c
    generalize mixV c = m at *
    have hd : m / 8 % 6 + 1 ≤ 6 := by omega
    by_cases h0 : m % 8 = 0
    · refine ⟨[10], box_rt rfl ?_, by decide, Asc.one (by decide)⟩
      simp only [B__law_piece, lit_no, lit_nl]
      simp (disch := omega) [hch, hc, hmix, h0]
    · by_cases h3 : m % 8 < 3
      · refine ⟨(List.replicate (1 + m / 8 % 3).toNat [32]).flatten, box_rt rfl ?_, by simp; omega, (Asc.one (by decide)).rep _⟩
        have e1 := tMul [32] (1 + m / 8 % 3) (by omega) (by omega) (by decide)
        simp only [B__law_piece, lit_no, lit_nl, lit_sp]
        simp (disch := omega) [hch, hc, hmix, h0, h3, e1]
      · obtain ⟨l, m', s, e, hl, ha⟩ := pieceGo L__law_piece_2 (fun l m2 s => [.bor (.int c), .val (tS ABC), .val (tS l), .val (.int m2), s, .val (.int (m % 8)), .val (.int (1 + m / 8 % 6))]) (1 + m / 8 % 6).toNat (by omega) (fun _ _ _ _ => rfl) (fun l m2 s hl hm => by
          obtain ⟨x, hx, ex⟩ := ABC_at (1 + m2 % 93) (by omega) (by omega)
          refine ⟨x, m2 / 93, hx, by omega, ?_⟩
          have e1 := tIx ABC (1 + m2 % 93) x (by rw [ABC_len]; omega) ex
          have e2 := tAdd l [x] (by simp; omega)
          simp (disch := omega) [L__law_piece_2, e1, e2]) (m / 8 / 6) (by omega)
        refine ⟨l, box_rt rfl ?_, by omega, ha⟩
        simp only [B__law_piece, lit_no, lit_nl, lit_sp]
        simp (disch := omega) [hch, hc, hmix, h0, h3]
        rw [e]
        simp
/-- the drawn text -/
theorem text_ex (ns : List Int) (hl : ns.length ≤ 63) (k : Nat) (hk : k ≤ 10) : ∃ l, F__law_text [.list (ns.map .int), .int (k : Nat)] = some (tS l) ∧ l.length ≤ 500 ∧ Asc l := by
  have hc := cell_eq ns k
  have hs := srcV_b (cellV ns k)
  generalize cellV ns k = c at hc hs
  have hsrc := source_eq c
  generalize srcV c = N at *
  generalize hm : cutG ns (some ((k : Int) + 1)) (some ((k : Int) + 41)) = ms
  have lm : ms.length ≤ 40 := by
    rw [← hm]
    have := cutG_len ns (i := (k : Int) + 1) (j := (k : Int) + 41) (by omega) (by omega)
    omega
  have cd : cutD (ns.map PyData.int) (some ((k : Int) + 1)) (some ((k : Int) + 41)) = ms.map PyData.int := by rw [cutD_map, hm]
  have key1 := for_all (ds := rangeD 0 (N % 12).toNat) (g := gV 4) (b := L__law_text_1) (ρ := [.scr (.list (ns.map .int)), .val (.int (k : Nat)), .val (.int N), .val (tS []), .un, .un])
    (fun i ρ => ∃ l s4, ρ = [.scr (.list (ns.map .int)), .val (.int (k : Nat)), .val (.int N), .val (tS l), s4, .un] ∧ l.length ≤ 8 * i ∧ Asc l) ⟨[], .un, rfl, by simp, Asc.nil⟩ (by
    rintro i dd ρ hd ⟨l, s4, rfl, h1, h2⟩
    have hi : i < 12 := by
      have := (List.getElem?_eq_some_iff.mp hd).1
      rw [rangeD_map, List.length_map, List.length_map, List.length_range] at this
      omega
    rw [rangeD_map, List.getElem?_map] at hd
    obtain ⟨m, hm, rfl⟩ := map_some hd
    obtain ⟨p, e1, h3, h4⟩ := piece_ex ((N / 12 + 7919 * m) % 1000000000)
    have e2 := tAdd l p (by omega)
    refine ⟨_, [.scr (.list (ns.map .int)), .val (.int (k : Nat)), .val (.int N), .val (tS (l ++ p)), .val (.int m), .un], rfl, .inl ?_, _, _, rfl, by rw [List.length_append]; omega, h2.app h4⟩
    simp (disch := omega) [L__law_text_1, oMul_l, e1, e2])
  obtain ⟨ρ', e1, l1, s4, rfl, h1, h2⟩ := key1
  rw [rangeD_map, List.length_map, List.length_map, List.length_range] at h1
  have key2 := for_all (ds := ms.map PyData.int) (g := gV 5) (b := L__law_text_2) (ρ := [.scr (.list (ns.map .int)), .val (.int (k : Nat)), .val (.int N), .val (tS l1), s4, .un])
    (fun i ρ => ∃ l s5, ρ = [.scr (.list (ns.map .int)), .val (.int (k : Nat)), .val (.int N), .val (tS l), s4, s5] ∧ l.length ≤ 96 + 8 * i ∧ Asc l) ⟨l1, .un, rfl, by omega, h2⟩ (by
    rintro i dd ρ hd ⟨l, s5, rfl, h1, h2⟩
    have hi : i < 40 := by
      have := (List.getElem?_eq_some_iff.mp hd).1
      rw [List.length_map] at this
      omega
    rw [List.getElem?_map] at hd
    obtain ⟨m, hm, rfl⟩ := map_some hd
    obtain ⟨p, e1, h3, h4⟩ := piece_ex m
    have e2 := tAdd l p (by omega)
    refine ⟨_, [.scr (.list (ns.map .int)), .val (.int (k : Nat)), .val (.int N), .val (tS (l ++ p)), s4, .val (.int m)], rfl, .inl ?_, _, _, rfl, by rw [List.length_append]; omega, h2.app h4⟩
    simp [L__law_text_2, e1, e2])
  obtain ⟨ρ', e2, l2, s5, rfl, h3, h4⟩ := key2
  rw [List.length_map] at h3
  obtain ⟨t, mt, et⟩ := pickI [1, 1, 1, 2, 7, 40] (i := N / 12 % 6) (by omega) (by simp; omega)
  have bt : 1 ≤ t ∧ t ≤ 40 := by simp at mt; omega
  simp only [List.map_cons, List.map_nil] at et
  have l5 : (List.replicate t.toNat l2).flatten.length ≤ 40 * 500 := by
    rw [List.length_flatten, List.map_replicate, List.sum_replicate_nat]
    exact Nat.mul_le_mul (by omega) (by omega)
  have e3 := tMul l2 t (by omega) (by omega) (by omega)
  have e4 := tSl (List.replicate t.toNat l2).flatten none (some 500) (by omega)
  refine ⟨cutG (List.replicate t.toNat l2).flatten none (some 500), box_rt rfl ?_, ?_, (h4.rep _).cut _ _⟩
  · unfold B__law_text
    rw [lit_no]
    rw [seq_nx (ρ' := [.scr (.list (ns.map .int)), .val (.int (k : Nat)), .val (.int N), .un, .un, .un]) (by simp [hc, hsrc])]
    rw [seq_nx (ρ' := [.scr (.list (ns.map .int)), .val (.int (k : Nat)), .val (.int N), .val (tS []), .un, .un]) (by simp)]
    rw [seq_nx ((sFor_eq (sArgs_eq (ds := [.int (N % 12)]) (by simp (disch := omega)) (rng1_r (by omega) (by omega)))).trans e1)]
    rw [seq_nx ((sFor_eq (ds := ms.map PyData.int) (by simp [cd])).trans e2)]
    simp (disch := omega) [size_le, et, e3, e4]
  · unfold cutG
    rw [List.length_take]
    have : HT.sIx (List.replicate t.toNat l2).flatten.length (List.replicate t.toNat l2).flatten.length (some 500) ≤ 500 := by
      rw [show (500 : Int) = ((500 : Nat) : Int) from rfl, HT.sIx_nat]; omega
    omega
/-! ### widths -/
def uV (c : Nat) : Int := if c = 10 then 0 else if c ∈ THINs then 1 else if c ∈ BROADs then 3 else 2
theorem uV_b (c : Nat) : 0 ≤ uV c ∧ uV c ≤ 3 := by
  unfold uV; split
  · omega
  · split
    · omega
    · split <;> omega
theorem asc_nl : Asc [10] := Asc.one (by decide)
theorem units_eq (c : Nat) (hc : c < 128) : F_units [tS [c]] = some (.int (uV c)) := by
  refine box_rt rfl ?_
  have e1 := tEq (a := [c]) (b := [10]) (Asc.one hc) asc_nl
  have e2 := tIn c THINs
  have e3 := tIn c BROADs
  unfold uV
  simp only [B_units, lit_nl, lit_thin, lit_broad]
  by_cases h1 : c = 10
  · subst h1; simp [e1]
  · by_cases h2 : c ∈ THINs
    · simp [e1, e2, h1, h2]
    · by_cases h3 : c ∈ BROADs <;> simp [e1, e2, e3, h1, h2, h3]
theorem advance_eq (c : Nat) (hc : c < 128) (s : Int) : F_advance [tS [c], .int s] = some (.int (uV c * s)) := by
  refine box_rt rfl ?_
  have := uV_b c
  simp (disch := omega) [B_advance, units_eq c hc, oMul_l]
theorem lawadv_eq (c : Nat) (hc : c < 128) (s : Int) : F__law_advance [tS [c], .int s] = some (.int (uV c * s)) := by
  refine box_rt rfl ?_
  have e1 := tEq (a := [c]) (b := [10]) (Asc.one hc) asc_nl
  have e2 := tIn c THINs
  have e3 := tIn c BROADs
  unfold uV
  simp only [B__law_advance, lit_nl, lit_thin, lit_broad]
  by_cases h1 : c = 10
  · subst h1; simp [e1]
  · by_cases h2 : c ∈ THINs
    · simp [e1, e2, h1, h2]
    · by_cases h3 : c ∈ BROADs <;> simp (disch := omega) [e1, e2, e3, h1, h2, h3, oMul_l]
def sumU (l : List Nat) : Int := (l.map uV).sum
theorem sumU_app (a b : List Nat) : sumU (a ++ b) = sumU a + sumU b := by unfold sumU; rw [List.map_append, List.sum_append]
theorem sumU_b (l : List Nat) : 0 ≤ sumU l ∧ sumU l ≤ 3 * (l.length : Int) := by
  unfold sumU
  induction l with
  | nil => simp
  | cons c r ih =>
    have := uV_b c
    simp only [List.map_cons, List.sum_cons, List.length_cons]
    omega
def offV (l : List Nat) (s : Int) : List Int := (List.range (l.length + 1)).map fun i => sumU (l.take i) * s
theorem offV_len (l : List Nat) (s : Int) : (offV l s).length = l.length + 1 := by unfold offV; simp
theorem offV_get (l : List Nat) (s : Int) (i : Nat) (h : i ≤ l.length) : (offV l s)[i]? = some (sumU (l.take i) * s) := by
  unfold offV
  rw [List.getElem?_map, List.getElem?_range (by omega)]; rfl
def offP (l : List Nat) (s : Int) (n : Nat) : List Int := (List.range (n + 1)).map fun i => sumU (l.take i) * s
theorem offP_s (l : List Nat) (s : Int) (n : Nat) : offP l s (n + 1) = offP l s n ++ [sumU (l.take (n + 1)) * s] := by
  unfold offP
  rw [List.range_succ, List.map_append]; rfl
theorem atI_last {α : Type} (xs : List α) (a : α) : atI (xs ++ [a]) (-1) = some a := by
  unfold L2.atI ixN
  rw [if_neg (by decide), if_pos (by simp; omega)]
  show (xs ++ [a])[_]? = _
  rw [show (-1 + ((xs ++ [a]).length : Int)).toNat = xs.length by simp; omega]
  simp
theorem offP_last (l : List Nat) (s : Int) (n : Nat) : atI ((offP l s n).map PyData.int) (-1) = some (.int (sumU (l.take n) * s)) := by
  unfold offP
  rw [List.range_succ, List.map_append, List.map_append]
  exact atI_last _ _
theorem offsets_eq (l : List Nat) (hl : l.length ≤ 1000000) (ha : Asc l) (s : Int) : F_offsets [tS l, .int s] = some (.list ((offV l s).map .int)) := by
  have step : ∀ (acc : List Int) (a : Int) (c : Nat), c < 128 → acc.length ≤ 1000001 → atI (acc.map PyData.int) (-1) = some (.int a) → L_offsets_1 [.bor (tS l), .bor (.int s), .own (.list (acc.map .int)), .val (tS [c])] = some (.nx [.bor (tS l), .bor (.int s), .own (.list ((acc ++ [a + uV c * s]).map .int)), .val (tS [c])]) := by
    intro acc a c hc hl h
    have lt : acc.length < sizeLine := by rw [sizeLine_eq]; omega
    simp [L_offsets_1, h, advance_eq c hc s, lt]
  have key := for_all (ds := l.map fun c => tS [c]) (g := gV 3) (b := L_offsets_1) (ρ := [.bor (tS l), .bor (.int s), .own (.list ((offP l s 0).map .int)), .un])
    (fun i ρ => ∃ s3, ρ = [.bor (tS l), .bor (.int s), .own (.list ((offP l s i).map .int)), s3]) ⟨.un, rfl⟩ (by
    rintro i dd ρ hd ⟨s3, rfl⟩
    rw [List.getElem?_map] at hd
    obtain ⟨c, hc, rfl⟩ := map_some hd
    have hi := (List.getElem?_eq_some_iff.mp hc).1
    have hc' := ha c (List.mem_of_getElem? hc)
    have e : sumU (l.take (i + 1)) * s = sumU (l.take i) * s + uV c * s := by
      rw [List.take_add_one, hc, sumU_app, Int.add_mul]
      simp [sumU]
    refine ⟨_, _, rfl, .inl (step _ _ c hc' (by unfold offP; simp; omega) (offP_last l s i)), ⟨_, by rw [offP_s, e]⟩⟩)
  obtain ⟨ρ', e, s3, rfl⟩ := key
  rw [List.length_map] at e
  refine box_rt rfl ?_
  unfold B_offsets
  rw [seq_nx (ρ' := [.bor (tS l), .bor (.int s), .own (.list ((offP l s 0).map .int)), .un]) (by simp [size_le, offP, sumU])]
  rw [seq_nx ((sFor_eq (ds := l.map fun c => tS [c]) (by simp [tItems])).trans e)]
  simp [offV, offP]
/-! ### what a text needs -/
theorem ext_eq (l : List Nat) (hl : l.length ≤ 4000) (ha : Asc l) (s : Int) : F__law_extent [tS l, .int s] = some (.int (sumU l * s)) := by
  refine box_rt rfl ?_
  show B__law_extent [.bor (tS l), .val (.int s), .un] = _
  have e1 : lcGo (gV 2) bYes (eCall F__law_advance (aCons (eB 2) (aCons (eV 1) aNil))) [.bor (tS l), .val (.int s), .un] (l.map fun c => tS [c]) = some ((l.map fun c => uV c * s).map .int) := by
    have := lcGo_filter (ρ := [.bor (tS l), .val (.int s), .un]) (g := gV 2) (t := bYes) (e := eCall F__law_advance (aCons (eB 2) (aCons (eV 1) aNil))) (fun c : Nat => tS [c]) (fun c : Nat => PyData.int (uV c * s)) (fun _ => true) l fun c hc => ⟨_, rfl, rfl, fun _ => by simp [lawadv_eq c (ha c hc) s]⟩
    rw [this, List.map_map]
    congr 2
    exact List.filter_eq_self.mpr fun _ _ => rfl
  have e2 : (l.map fun c => uV c * s).sum = sumU l * s := by
    unfold sumU
    clear e1 hl ha
    induction l with
    | nil => simp
    | cons c r ih => simp only [List.map_cons, List.sum_cons, ih, Int.add_mul]
  unfold B__law_extent
  rw [sRet_r, eCall_r, aCons_r, eLc_eq (ds := l.map fun c => tS [c]) (by simp [tItems]) e1 (by rw [List.length_map, List.length_map]; omega)]
  simp only [aNil_r, Option.bind_some, cSum_i, e2]
theorem room_ex (c : Int) (T : List Nat) (lT : T.length ≤ 4000) (aT : Asc T) (s : Int) (hs : 1 ≤ s ∧ s ≤ 20) : ∃ r : Int, F__law_room [.int c, tS T, .int s] = some (.int r) ∧ 0 ≤ r ∧ r ≤ 1000000 := by
  have hn := srcV_b c
  have hc := source_eq c
  generalize srcV c = N at *
  have eL := tLen T (by omega)
  have m1 : 0 ≤ N / 4 % ((T.length : Int) + 1) ∧ N / 4 % ((T.length : Int) + 1) < (T.length : Int) + 1 := ⟨Int.emod_nonneg _ (by omega), Int.emod_lt_of_pos _ (by omega)⟩
  have m2 : 0 ≤ N / 4 / 501 % ((T.length : Int) + 1) ∧ N / 4 / 501 % ((T.length : Int) + 1) < (T.length : Int) + 1 := ⟨Int.emod_nonneg _ (by omega), Int.emod_lt_of_pos _ (by omega)⟩
  generalize hx : N / 4 % ((T.length : Int) + 1) = x at *
  generalize hy : N / 4 / 501 % ((T.length : Int) + 1) = y at *
  have cs := tSl T (some (min x y)) (some (max x y)) (by omega)
  have lC : (cutG T (some (min x y)) (some (max x y))).length ≤ 4000 := by
    have := cutG_len T (i := min x y) (j := max x y) (by omega) (by omega)
    omega
  have aC := aT.cut (some (min x y)) (some (max x y))
  generalize cutG T (some (min x y)) (some (max x y)) = C at *
  have eC := ext_eq C lC aC s
  have eT := ext_eq T lT aT s
  have bC := sumU_b C
  have bT' := sumU_b T
  have k1 : 0 ≤ sumU C * s := Int.mul_nonneg bC.1 (by omega)
  have k2 : sumU C * s ≤ 12000 * 20 := Int.mul_le_mul (by omega) hs.2 (by omega) (by omega)
  have k3 : 0 ≤ sumU T * s := Int.mul_nonneg bT'.1 (by omega)
  have k4 : sumU T * s ≤ 12000 * 20 := Int.mul_le_mul (by omega) hs.2 (by omega) (by omega)
  generalize sumU C * s = W at *
  generalize sumU T * s = V at *
  have e3 : oMulS (.int 2) (.int V) = some (.int (2 * V)) := oMul_l (by omega) (by omega)
  have m3 := Int.emod_nonneg (N / 4) (show 1 + 2 * V ≠ 0 by omega)
  have m4 := Int.emod_lt_of_pos (N / 4) (show 0 < 1 + 2 * V by omega)
  by_cases h0 : N % 4 = 0
  · exact ⟨N / 4 % 60, box_rt rfl (by simp (disch := omega) [B__law_room, hc, h0]), by omega, by omega⟩
  · have key : ∀ f : SS, f = B__law_room → ∃ r : Int, f [.bor (.int c), .bor (tS T), .val (.int s), .un, .un, .un, .un, .un] = some (.rt (.int r)) ∧ 0 ≤ r ∧ r ≤ 1000000 := by
      rintro f rfl
      have A : ∀ r, (sSeqn (sIf (bT (eOp oEq (eB 4) (eK (.int 1))))
    (sRet (eV 7))
    sNext)
  (sSeqn (sIf (bT (eOp oEq (eB 4) (eK (.int 2))))
    (sRet (eCall cMax2 (aCons (eK (.int 0)) (aCons (eOp oSub (eB 7) (eK (.int 1))) aNil))))
    sNext)
  (sRet (eOp oMod (eCall cInt (aCons (eB 3) aNil)) (eOp oAdd (eK (.int 1)) (eOp oMulS (eK (.int 2)) (eCall F__law_extent (aCons (eB 1) (aCons (eV 2) aNil))))))))) [.bor (.int c), .bor (tS T), .val (.int s), .val (.int (N / 4)), .val (.int (N % 4)), .val (.int x), .val (.int y), .val (.int W)] = some (.rt (.int r)) → B__law_room [.bor (.int c), .bor (tS T), .val (.int s), .un, .un, .un, .un, .un] = some (.rt (.int r)) := by
        intro r hr
        unfold B__law_room
        rw [seq_nx (ρ' := [.bor (.int c), .bor (tS T), .val (.int s), .val (.int N), .un, .un, .un, .un]) (by simp [hc])]
        rw [seq_nx (ρ' := [.bor (.int c), .bor (tS T), .val (.int s), .val (.int N), .val (.int (N % 4)), .un, .un, .un]) (by simp (disch := omega))]
        rw [seq_nx (ρ' := [.bor (.int c), .bor (tS T), .val (.int s), .val (.int (N / 4)), .val (.int (N % 4)), .un, .un, .un]) (by simp (disch := omega))]
        rw [seq_nx (ρ' := [.bor (.int c), .bor (tS T), .val (.int s), .val (.int (N / 4)), .val (.int (N % 4)), .un, .un, .un]) (by simp (disch := omega) [h0])]
        rw [seq_nx (ρ' := [.bor (.int c), .bor (tS T), .val (.int s), .val (.int (N / 4)), .val (.int (N % 4)), .val (.int x), .un, .un]) (by simp (disch := omega) [eL, hx])]
        rw [seq_nx (ρ' := [.bor (.int c), .bor (tS T), .val (.int s), .val (.int (N / 4)), .val (.int (N % 4)), .val (.int x), .val (.int y), .un]) (by simp (disch := omega) [eL, hy])]
        rw [seq_nx (ρ' := [.bor (.int c), .bor (tS T), .val (.int s), .val (.int (N / 4)), .val (.int (N % 4)), .val (.int x), .val (.int y), .val (.int W)]) (by simp [cs, eC])]
        exact hr
      by_cases h1 : N % 4 = 1
      · exact ⟨W, A _ (by simp [h1]), by omega, by omega⟩
      · by_cases h2 : N % 4 = 2
        · exact ⟨max 0 (W - 1), A _ (by simp [h2]), by omega, by omega⟩
        · exact ⟨N / 4 % (1 + 2 * V), A _ (by simp (disch := omega) [h1, h2, eT, e3]), by omega, by omega⟩
    obtain ⟨r, e, h⟩ := key _ rfl
    exact ⟨r, box_rt rfl e, h⟩
/-! ### paragraphs -/
def spN (acc : List Nat) : List Nat → List (List Nat)
  | [] => [acc]
  | c :: r => if c = 10 then acc :: spN [] r else spN (acc ++ [c]) r
theorem spl_spN : ∀ (l acc : List Nat), TL.spl [10] 0 acc l = spN acc l
  | [], acc => rfl
  | c :: r, acc => by
    have hp : TL.pre [10] (c :: r) = decide (c = 10) := by
      unfold TL.pre
      simp
      rfl
    show (if TL.pre [10] (c :: r) = true then acc :: TL.spl [10] ([10].length - 1) [] r else TL.spl [10] 0 (acc ++ [c]) r) = _
    unfold spN
    by_cases h : c = 10
    · rw [if_pos (by rw [hp]; exact decide_eq_true h), if_pos h]
      congr 1
      exact spl_spN r []
    · rw [if_neg (by rw [hp, decide_eq_false h]; exact Bool.false_ne_true), if_neg h]
      exact spl_spN r (acc ++ [c])
def jn : List (List Nat) → List Nat
  | [] => []
  | [p] => p
  | p :: q :: r => p ++ 10 :: jn (q :: r)
theorem spN_ne : ∀ (l acc : List Nat), spN acc l ≠ []
  | [], _ => by simp [spN]
  | c :: r, acc => by
    unfold spN
    split
    · simp
    · exact spN_ne r _
theorem spN_jn : ∀ (l acc : List Nat), jn (spN acc l) = acc ++ l
  | [], acc => by simp [spN, jn]
  | c :: r, acc => by
    unfold spN
    by_cases h : c = 10
    · rw [if_pos h]
      have ih := spN_jn r []
      cases e : spN [] r with
      | nil => exact absurd e (spN_ne r [])
      | cons p ps =>
        rw [e] at ih
        rw [jn, ih, h]; rfl
    · rw [if_neg h, spN_jn r (acc ++ [c])]; simp
theorem spN_free : ∀ (l acc : List Nat), 10 ∉ acc → ∀ p ∈ spN acc l, 10 ∉ p
  | [], acc, h, p, hp => by
    rw [spN, List.mem_singleton] at hp
    rw [hp]; exact h
  | c :: r, acc, h, p, hp => by
    unfold spN at hp
    by_cases hc : c = 10
    · rw [if_pos hc] at hp
      rcases List.mem_cons.mp hp with rfl | hp
      · exact h
      · exact spN_free r [] (by simp) p hp
    · rw [if_neg hc] at hp
      exact spN_free r (acc ++ [c]) (by simp [h]; omega) p hp
def rowsV : Nat → List (List Nat) → List (Nat × Nat)
  | _, [] => []
  | s, p :: ps => (s, s + p.length) :: rowsV (s + p.length + 1) ps
def encP (r : Nat × Nat) : PyData := .tuple [.int (r.1 : Nat), .int (r.2 : Nat)]
theorem rowsV_len : ∀ (s : Nat) (ps : List (List Nat)), (rowsV s ps).length = ps.length
  | _, [] => rfl
  | s, p :: ps => by rw [rowsV, List.length_cons, rowsV_len, List.length_cons]
theorem split_tS (T : List Nat) (hl : T.length ≤ 1000000) : oSplit (tS T) (tS [10]) = some (.list ((spN [] T).map tS)) := by
  unfold tS oSplit
  simp only []
  rw [if_pos ⟨by rw [tLen1]; rfl, by rw [tLen1, sizeLine_eq]; omega⟩]
  have : Txt.split (⟨T.toArray⟩ : Str) ⟨[10].toArray⟩ = (TL.spl [10] 0 [] T).map SX.S := SX.split_S (by simp) (by decide)
  rw [this, spl_spN, List.map_map]
  rfl
theorem count_tS (T : List Nat) : oCount (tS T) (tS [10]) = some (.int (((spN [] T).length : Int) - 1)) := by
  unfold tS oCount
  simp only []
  have h1 := PyProof.Rows.count_cnt (⟨T.toArray⟩ : Str) 10
  have h2 := PyProof.Rows.split_len (⟨T.toArray⟩ : Str) 10
  have : Txt.split (⟨T.toArray⟩ : Str) ⟨#[10]⟩ = (TL.spl [10] 0 [] T).map SX.S := SX.split_S (a := T) (b := [10]) (by simp) (by decide)
  rw [this, spl_spN, List.length_map] at h2
  congr 2
  show Txt.count (⟨T.toArray⟩ : Str) ⟨#[10]⟩ = _
  rw [h1]; omega
theorem paraGo (S0 : PyData) : ∀ (ps : List (List Nat)) (acc : List PyData) (s : Nat) (s3 : Slot), acc.length + ps.length ≤ 1000000 → (∀ p ∈ ps, p.length ≤ 1000000) → ∃ s2 s3', forGo (gV 3) L_paragraphs_1 (ps.map tS) [.bor S0, .own (.list acc), .val (.int (s : Nat)), s3] = some (.nx [.bor S0, .own (.list (acc ++ (rowsV s ps).map encP)), s2, s3'])
  | [], acc, s, s3, _, _ => ⟨_, s3, by simp [forGo, rowsV]; rfl⟩
  | p :: ps, acc, s, s3, h, hp => by
    have lp := hp p List.mem_cons_self
    rw [List.length_cons] at h
    obtain ⟨a, b, e⟩ := paraGo S0 ps (acc ++ [encP (s, s + p.length)]) (s + p.length + 1) (.val (tS p)) (by simp; omega) fun q hq => hp q (List.mem_cons_of_mem _ hq)
    refine ⟨a, b, ?_⟩
    have lt : acc.length < sizeLine := by rw [sizeLine_eq]; omega
    have el := tLen p lp
    have st : L_paragraphs_1 [.bor S0, .own (.list acc), .val (.int (s : Nat)), .val (tS p)] = some (.nx [.bor S0, .own (.list (acc ++ [encP (s, s + p.length)])), .val (.int ((s + p.length + 1 : Nat) : Int)), .val (tS p)]) := by
      unfold L_paragraphs_1
      rw [seq_nx (ρ' := [.bor S0, .own (.list (acc ++ [encP (s, s + p.length)])), .val (.int (s : Nat)), .val (tS p)]) (by simp [el, lt, size_le, encP])]
      have : (s : Int) + ((p.length : Int) + 1) = ((s + p.length + 1 : Nat) : Int) := by omega
      simp [el, sAug, addI, this]
    rw [List.map_cons, forGo]
    show (L_paragraphs_1 [.bor S0, .own (.list acc), .val (.int (s : Nat)), .val (tS p)]).bind _ = _
    rw [st, Option.bind_some]
    simp only []
    rw [e, rowsV, List.map_cons, List.append_assoc]; rfl
theorem part_len : ∀ (ps : List (List Nat)) (p : List Nat), p ∈ ps → p.length ≤ (jn ps).length
  | [], _, h => by cases h
  | [q], p, h => by rw [List.mem_singleton.mp h]; exact Nat.le_refl _
  | q :: r :: ps, p, h => by
    rw [jn, List.length_append, List.length_cons]
    rcases List.mem_cons.mp h with rfl | h
    · omega
    · have := part_len (r :: ps) p h
      omega
theorem jn_len : ∀ ps : List (List Nat), ps.length ≤ (jn ps).length + 1
  | [] => by simp
  | [q] => by simp
  | q :: r :: ps => by
    have := jn_len (r :: ps)
    rw [jn, List.length_append, List.length_cons]
    simp only [List.length_cons] at this ⊢
    omega
theorem para_eq (T : List Nat) (hl : T.length ≤ 100000) : F_paragraphs [tS T] = some (.list ((rowsV 0 (spN [] T)).map encP)) := by
  refine box_rt rfl ?_
  show B_paragraphs [.bor (tS T), .un, .un, .un] = _
  have hj := spN_jn T []
  have l1 := jn_len (spN [] T)
  rw [hj, List.nil_append] at l1
  have l2 : ∀ p ∈ spN [] T, p.length ≤ 1000000 := fun p hp => by
    have := part_len _ p hp
    rw [hj, List.nil_append] at this
    omega
  obtain ⟨s2, s3, e⟩ := paraGo (tS T) (spN [] T) [] 0 .un (by simp; omega) l2
  have e : forGo (gV 3) L_paragraphs_1 ((spN [] T).map tS) [.bor (tS T), .own (.list []), .val (.int 0), .un] = _ := e
  unfold B_paragraphs
  rw [lit_nl]
  rw [seq_nx (ρ' := [.bor (tS T), .own (.list []), .un, .un]) (by simp [size_le])]
  rw [seq_nx (ρ' := [.bor (tS T), .own (.list []), .val (.int 0), .un]) (by simp)]
  rw [seq_nx ((sFor_eq (ds := (spN [] T).map tS) (by simp [split_tS T (by omega)])).trans e)]
  simp
theorem is_integer_i (i : Int) : F__law_is_integer [.int i] = some (.bool true) := by
  refine box_rt rfl ?_
  simp [B__law_is_integer]
theorem tNe {a b : List Nat} (ha : ∀ c ∈ a, c < 128) (hb : ∀ c ∈ b, c < 128) : oNe (tS a) (tS b) = some (.bool (!decide (a = b))) := by
  have h1 : clean 9 (tS a) = true := by simpa [tS, clean] using tOk ha
  have h2 : clean 9 (tS b) = true := by simpa [tS, clean] using tOk hb
  rw [oNe_c h1 h2, eqv_dec h1 h2 (a = b) (by simp [tS])]
theorem rows_bound : ∀ (ps : List (List Nat)) (s n : Nat), s + (jn ps).length = n → ∀ r ∈ rowsV s ps, r.1 ≤ r.2 ∧ r.2 ≤ n
  | [], _, _, _, r, h => by cases h
  | [p], s, n, hn, r, h => by
    rw [rowsV, rowsV, List.mem_singleton] at h
    subst h
    simp only [jn] at hn
    simp only []; omega
  | p :: q :: ps, s, n, hn, r, h => by
    rw [jn, List.length_append, List.length_cons] at hn
    rw [rowsV] at h
    rcases List.mem_cons.mp h with rfl | h
    · simp only []; omega
    · exact rows_bound (q :: ps) (s + p.length + 1) n (by omega) r h
theorem cut_mid (T : List Nat) (a b : Nat) (h1 : a ≤ b) (h2 : b ≤ T.length) : cutG T (some (a : Nat)) (some (b : Nat)) = (T.drop a).take (b - a) := by
  unfold cutG
  rw [HT.sIx_nat, HT.sIx_nat, show min a T.length = a by omega, show min b T.length = b by omega]
/-! ### words -/
def ltr (T : List Nat) (k : Nat) : Prop := T.getD k 0 ≠ 32 ∧ T.getD k 0 ≠ 10
instance (T : List Nat) (k : Nat) : Decidable (ltr T k) := by unfold ltr; exact inferInstance
theorem lit_sp' : PyData.str (Str.ofString " ") = tS [32] := lit_sp
theorem tAt (T : List Nat) (aT : Asc T) (lT : T.length ≤ 1000000) (k : Nat) (h : k < T.length) : oIx (tS T) (.int (k : Nat)) = some (tS [T.getD k 0]) ∧ T.getD k 0 < 128 := by
  have e : T.getD k 0 = T[k] := by rw [List.getD_eq_getElem?_getD, List.getElem?_eq_getElem h]; rfl
  refine ⟨?_, by rw [e]; exact aT _ (List.getElem_mem h)⟩
  rw [e]
  exact tIx T (k : Nat) _ lT (by rw [atI_pos (by omega), Int.toNat_natCast, List.getElem?_eq_getElem h])
def Chk (T : List Nat) (lo hi : Nat) : Nat → List (Nat × Nat) → Nat → Prop
  | a, [], e => e = a
  | a, (s, t) :: F, e => (a ≤ s ∧ s < t ∧ t ≤ hi ∧ (∀ x, a ≤ x → x < s → ¬ ltr T x) ∧ (∀ x, s ≤ x → x < t → ltr T x) ∧ (lo < s → ¬ ltr T (s - 1)) ∧ (t < hi → ¬ ltr T t)) ∧ Chk T lo hi t F e
theorem Chk.app {T : List Nat} {lo hi : Nat} : ∀ {F : List (Nat × Nat)} {a e s t : Nat}, Chk T lo hi a F e → (e ≤ s ∧ s < t ∧ t ≤ hi ∧ (∀ x, e ≤ x → x < s → ¬ ltr T x) ∧ (∀ x, s ≤ x → x < t → ltr T x) ∧ (lo < s → ¬ ltr T (s - 1)) ∧ (t < hi → ¬ ltr T t)) → Chk T lo hi a (F ++ [(s, t)]) t
  | [], a, e, s, t, h, h2 => by
    have : e = a := h
    subst this
    exact ⟨h2, rfl⟩
  | (s', t') :: F, a, e, s, t, h, h2 => ⟨h.1, Chk.app h.2 h2⟩
def encB : Option Nat → PyData
  | none => .none
  | some j => .int (j : Nat)
def WInv (T : List Nat) (lo hi k : Nat) (F : List (Nat × Nat)) (b : Option Nat) : Prop := ∃ e, Chk T lo hi lo F e ∧ lo ≤ e ∧ match b with
  | none => e ≤ k ∧ ∀ x, e ≤ x → x < k → ¬ ltr T x
  | some j => e ≤ j ∧ j < k ∧ (∀ x, e ≤ x → x < j → ¬ ltr T x) ∧ (∀ x, j ≤ x → x < k → ltr T x) ∧ (lo < j → ¬ ltr T (j - 1))
def wStep (T : List Nat) (k : Nat) (F : List (Nat × Nat)) (b : Option Nat) : List (Nat × Nat) × Option Nat :=
  if ltr T k then (F, some (b.getD k)) else match b with
    | none => (F, none)
    | some j => (F ++ [(j, k)], none)
theorem WInv.step {T : List Nat} {lo hi k : Nat} {F : List (Nat × Nat)} {b : Option Nat} (h : WInv T lo hi k F b) (hk : k < hi) (hlo : lo ≤ k) : WInv T lo hi (k + 1) (wStep T k F b).1 (wStep T k F b).2 := by
  obtain ⟨e, h1, h0, h2⟩ := h
  unfold wStep
  by_cases c : ltr T k
  · rw [if_pos c]
    cases b with
    | none =>
      obtain ⟨h3, h4⟩ := h2
      refine ⟨e, h1, h0, h3, by show k < k + 1; omega, h4, fun x (hx : k ≤ x) hx2 => ?_, fun (hj : lo < k) => ?_⟩
      · have : x = k := by omega
        subst this; exact c
      · by_cases z : e ≤ k - 1
        · exact h4 (k - 1) z (by omega)
        · have ek : e = k := by omega
          subst ek
          -- the last word ends here
          exact absurd c (by
            have : ∀ (F : List (Nat × Nat)) (a : Nat), a < e → Chk T lo hi a F e → ¬ ltr T e := by
              intro F
              induction F with
              | nil => intro a ha (hc : e = a); omega
              | cons p F ih =>
                intro a ha hc
                obtain ⟨s, t⟩ := p
                obtain ⟨⟨p1, p2, p3, p4, p5, p6, p7⟩, p8⟩ := hc
                by_cases y : t < e
                · exact ih t y p8
                · cases F with
                  | nil =>
                    have : e = t := p8
                    subst this
                    exact p7 hk
                  | cons q F =>
                    exfalso
                    obtain ⟨s', t'⟩ := q
                    have mono : ∀ (F : List (Nat × Nat)) (a e : Nat), Chk T lo hi a F e → a ≤ e := by
                      intro F
                      induction F with
                      | nil => intro a e (h : e = a); omega
                      | cons p F ih =>
                        intro a e h
                        obtain ⟨s, t⟩ := p
                        have := ih t e h.2
                        have := h.1.1
                        have := h.1.2.1
                        omega
                    have := mono F t' e p8.2
                    have := p8.1.1
                    have := p8.1.2.1
                    omega
            exact this F lo hj h1)
    | some j =>
      obtain ⟨h3, h4, h5, h6, h7⟩ := h2
      refine ⟨e, h1, h0, h3, by show j < k + 1; omega, h5, fun x hx hx2 => ?_, h7⟩
      by_cases z : x < k
      · exact h6 x hx z
      · have : x = k := by omega
        subst this; exact c
  · rw [if_neg c]
    cases b with
    | none =>
      obtain ⟨h3, h4⟩ := h2
      refine ⟨e, h1, h0, by omega, fun x hx hx2 => ?_⟩
      by_cases z : x < k
      · exact h4 x hx z
      · have : x = k := by omega
        subst this; exact c
    | some j =>
      obtain ⟨h3, h4, h5, h6, h7⟩ := h2
      refine ⟨k, h1.app ⟨h3, h4, by omega, h5, h6, h7, fun _ => c⟩, hlo, by omega, fun x hx hx2 => ?_⟩
      have : x = k := by omega
      subst this; exact c
theorem words_ex (T : List Nat) (aT : Asc T) (lT : T.length ≤ 4000) (lo hi : Nat) (h1 : lo ≤ hi) (h2 : hi ≤ T.length) : ∃ F e, F_words [tS T, .int (lo : Nat), .int (hi : Nat)] = some (.list (F.map encP)) ∧ Chk T lo hi lo F e ∧ e ≤ hi ∧ lo ≤ e ∧ (∀ x, e ≤ x → x < hi → ¬ ltr T x) ∧ F.length ≤ 4001 := by
  have key := for_all (ds := rangeD (lo : Nat) (hi - lo)) (g := gV 5) (b := L_words_1) (ρ := [.bor (tS T), .val (.int (lo : Nat)), .val (.int (hi : Nat)), .own (.list []), .val .none, .un])
    (fun i ρ => ∃ F b s5, ρ = [.bor (tS T), .val (.int (lo : Nat)), .val (.int (hi : Nat)), .own (.list (F.map encP)), .val (encB b), s5] ∧ WInv T lo hi (lo + i) F b ∧ F.length ≤ i) ⟨[], none, .un, rfl, ⟨lo, rfl, Nat.le_refl _, Nat.le_refl _, fun x hx hx2 => by omega⟩, Nat.le_refl _⟩ (by
    rintro i dd ρ hd ⟨F, b, s5, rfl, hw, hF⟩
    have hi' : i < hi - lo := by
      have := (List.getElem?_eq_some_iff.mp hd).1
      rw [rangeD_map, List.length_map, List.length_map, List.length_range] at this
      exact this
    have hdd : dd = .int ((lo + i : Nat) : Int) := by
      rw [rangeD_map, List.getElem?_map, List.getElem?_map, List.getElem?_range hi'] at hd
      have := Option.some.inj hd
      rw [← this]; simp
    subst hdd
    have hst := hw.step (k := lo + i) (by omega) (by omega)
    obtain ⟨a1, a2⟩ := tAt T aT (by omega) (lo + i) (by omega)
    have q1 := tEq (a := [T.getD (lo + i) 0]) (b := [32]) (Asc.one a2) (Asc.one (by decide))
    have q2 := tEq (a := [T.getD (lo + i) 0]) (b := [10]) (Asc.one a2) (Asc.one (by decide))
    have lt : F.length < sizeLine := by rw [sizeLine_eq]; omega
    refine ⟨_, [.bor (tS T), .val (.int (lo : Nat)), .val (.int (hi : Nat)), .own (.list ((wStep T (lo + i) F b).1.map encP)), .val (encB (wStep T (lo + i) F b).2), .val (.int ((lo + i : Nat) : Int))], rfl, .inl ?_, _, _, _, rfl, hst, ?_⟩
    · unfold wStep
      show L_words_1 [.bor (tS T), .val (.int (lo : Nat)), .val (.int (hi : Nat)), .own (.list (F.map encP)), .val (encB b), .val (.int ((lo + i : Nat) : Int))] = _
      unfold L_words_1
      rw [lit_sp, lit_nl]
      by_cases c : ltr T (lo + i)
      · rw [if_pos c]
        have c1 : ¬ T.getD (lo + i) 0 = 32 := c.1
        have c2 : ¬ T.getD (lo + i) 0 = 10 := c.2
        have q1 : oEq (tS [T.getD (lo + i) 0]) (tS [32]) = some (.bool false) := by rw [q1, decide_eq_false (by simpa using c1)]
        have q2 : oEq (tS [T.getD (lo + i) 0]) (tS [10]) = some (.bool false) := by rw [q2, decide_eq_false (by simpa using c2)]
        generalize tS [T.getD (lo + i) 0] = z at *
        cases b with
        | none =>
          simp only [Option.getD_none]
          have hb : encB (some (lo + i)) = .int ((lo + i : Nat) : Int) := rfl
          rw [hb]
          generalize ((lo + i : Nat) : Int) = u at *
          simp [a1, q1, q2, encB]
        | some j =>
          simp only [Option.getD_some]
          generalize ((lo + i : Nat) : Int) = u at *
          simp [a1, q1, q2, encB]
      · rw [if_neg c]
        have hq : bOr (bT (eOp oEq (eOp oIx (eB 0) (eB 5)) (eK (tS [32])))) (bT (eOp oEq (eOp oIx (eB 0) (eB 5)) (eK (tS [10])))) [.bor (tS T), .val (.int (lo : Nat)), .val (.int (hi : Nat)), .own (.list (F.map encP)), .val (encB b), .val (.int ((lo + i : Nat) : Int))] = some true := by
          by_cases c1 : T.getD (lo + i) 0 = 32
          · have q1 : oEq (tS [T.getD (lo + i) 0]) (tS [32]) = some (.bool true) := by rw [q1, decide_eq_true (by simpa using c1)]
            generalize tS [T.getD (lo + i) 0] = z at *
            generalize ((lo + i : Nat) : Int) = u at *
            simp [a1, q1]
          · have c2 : T.getD (lo + i) 0 = 10 := by
              by_cases c2 : T.getD (lo + i) 0 = 10
              · exact c2
              · exact absurd ⟨c1, c2⟩ c
            have q1 : oEq (tS [T.getD (lo + i) 0]) (tS [32]) = some (.bool false) := by rw [q1, decide_eq_false (by simpa using c1)]
            have q2 : oEq (tS [T.getD (lo + i) 0]) (tS [10]) = some (.bool true) := by rw [q2, decide_eq_true (by simpa using c2)]
            generalize tS [T.getD (lo + i) 0] = z at *
            generalize ((lo + i : Nat) : Int) = u at *
            simp [a1, q1, q2]
        rw [sIf_r, hq]
        simp only [Option.bind_some, if_true]
        cases b with
        | none => simp [encB]
        | some j => simp [encB, encP, lt, size_le]
    · unfold wStep
      split
      · show F.length ≤ i + 1
        omega
      · split
        · show F.length ≤ i + 1
          omega
        · simp; omega)
  obtain ⟨ρ', e, F, b, s5, rfl, hw, hF⟩ := key
  rw [rangeD_map, List.length_map, List.length_map, List.length_range] at hw hF
  rw [show lo + (hi - lo) = hi by omega] at hw
  have lt : F.length < sizeLine := by rw [sizeLine_eq]; omega
  obtain ⟨e0, k1, k0, k2⟩ := hw
  have hrun : ∀ F' : List (Nat × Nat), (match b with | none => F' = F | some j => F' = F ++ [(j, hi)]) → F_words [tS T, .int (lo : Nat), .int (hi : Nat)] = some (.list (F'.map encP)) := by
    intro F' hF'
    refine box_rt rfl ?_
    show B_words [.bor (tS T), .val (.int (lo : Nat)), .val (.int (hi : Nat)), .un, .un, .un] = _
    unfold B_words
    rw [seq_nx (ρ' := [.bor (tS T), .val (.int (lo : Nat)), .val (.int (hi : Nat)), .own (.list []), .un, .un]) (by simp [size_le])]
    rw [seq_nx (ρ' := [.bor (tS T), .val (.int (lo : Nat)), .val (.int (hi : Nat)), .own (.list []), .val .none, .un]) (by simp)]
    have er : rng2 [.int (lo : Nat), .int (hi : Nat)] = some (rangeD (lo : Nat) (hi - lo)) := by
      rw [rng2_r (by omega) (by omega) (by omega) (by omega)]
      congr 2; omega
    rw [seq_nx ((sFor_eq (sArgs_eq (ds := [.int (lo : Nat), .int (hi : Nat)]) (by simp) er)).trans e)]
    cases b with
    | none =>
      have hF' : F' = F := hF'
      rw [hF']
      simp [encB]
    | some j =>
      have hF' : F' = F ++ [(j, hi)] := hF'
      rw [hF']
      simp [encB, lt, size_le, encP]
  cases b with
  | none => exact ⟨F, e0, hrun F rfl, k1, k2.1, k0, k2.2, by omega⟩
  | some j =>
    obtain ⟨h3, h4, h5, h6, h7⟩ := k2
    refine ⟨F ++ [(j, hi)], hi, hrun _ rfl, k1.app ⟨h3, h4, Nat.le_refl _, h5, h6, h7, fun z => absurd z (Nat.lt_irrefl _)⟩, Nat.le_refl _, h1, fun x hx hx2 => by omega, by simp; omega⟩
/-! ### lines of a paragraph -/
theorem last_enc (A : List (Nat × Nat)) (p : Nat × Nat) : atI ((A ++ [p]).map encP) (-1) = some (encP p) := by
  rw [List.map_append]; exact atI_last _ _
theorem ix_last {α : Type} (A : List α) (p : α) : ixN (A ++ [p]).length (-1) = some A.length := by
  unfold ixN
  rw [if_neg (by decide), if_pos (by simp; omega)]
  congr 1; simp; omega
def bpS (O : List Int) (w : Int) (acc : List (Nat × Nat)) (p : Nat × Nat) : List (Nat × Nat) :=
  match acc.getLast? with
  | some q => if O.getD p.2 0 - O.getD q.1 0 ≤ w then acc.dropLast ++ [(q.1, p.2)] else acc ++ [p]
  | none => [p]
theorem bp_step (P0 : PyData) (st : Slot) (O : List Int) (w : Int) (acc : List (Nat × Nat)) (p : Nat × Nat) (hp : p.2 < O.length) (ha : ∀ q ∈ acc, q.1 < O.length) (hl : acc.length ≤ 5000) :
    L_break_paragraph_1 [.bor P0, st, .bor (.list (O.map .int)), .bor (.int w), .own (.list (acc.map encP)), .val (.int (p.1 : Nat)), .val (.int (p.2 : Nat))] = some (.nx [.bor P0, st, .bor (.list (O.map .int)), .bor (.int w), .own (.list ((bpS O w acc p).map encP)), .val (.int (p.1 : Nat)), .val (.int (p.2 : Nat))]) := by
  have g1 : atI (O.map PyData.int) (p.2 : Nat) = some (.int (O.getD p.2 0)) := by
    rw [atI_pos (by omega), Int.toNat_natCast, List.getElem?_map, List.getD_eq_getElem?_getD, List.getElem?_eq_getElem hp]; rfl
  have lt : (acc.map encP).length < sizeLine := by rw [List.length_map, sizeLine_eq]; omega
  obtain ⟨f, l⟩ := p
  simp only [] at g1 ⊢
  rcases List.eq_nil_or_concat acc with rfl | ⟨A, q, rfl⟩
  · have lt0 : fApp [] [encP (f, l)] = some (.list [encP (f, l)]) := by
      rw [fApp_r, if_pos (by rw [sizeLine_eq]; simp)]; rfl
    have e : (eTup (aCons (eV 5) (aCons (eV 6) aNil))) [.bor P0, st, .bor (.list (O.map .int)), .bor (.int w), .own (.list []), .val (.int (f : Nat)), .val (.int (l : Nat))] = some (encP (f, l)) := by
      simp [size_le, encP]
    show L_break_paragraph_1 [.bor P0, st, .bor (.list (O.map .int)), .bor (.int w), .own (.list []), .val (.int (f : Nat)), .val (.int (l : Nat))] = some (.nx [.bor P0, st, .bor (.list (O.map .int)), .bor (.int w), .own (.list [encP (f, l)]), .val (.int (f : Nat)), .val (.int (l : Nat))])
    unfold L_break_paragraph_1
    rw [sIf_r]
    have h1 : bV (eB 4) [.bor P0, st, .bor (.list (O.map .int)), .bor (.int w), .own (.list []), .val (.int (f : Nat)), .val (.int (l : Nat))] = some false := by simp
    rw [bAnd_r, h1]
    simp only [Option.bind_some]
    rw [if_neg (by decide), Option.bind_some, if_neg (by decide), sMut_r]
    simp only [getS]
    rw [aCons_r, e]
    simp only [aNil_r, Option.bind_some, lt0]
    rfl
  · rw [List.concat_eq_append] at *
    have hq := ha q (by simp)
    have g2 : atI (O.map PyData.int) (q.1 : Nat) = some (.int (O.getD q.1 0)) := by
      rw [atI_pos (by omega), Int.toNat_natCast, List.getElem?_map, List.getD_eq_getElem?_getD, List.getElem?_eq_getElem hq]; rfl
    have g3 := last_enc A q
    have g4 : ixN ((A ++ [q]).map encP).length (-1) = some A.length := by rw [List.length_map]; exact ix_last A q
    unfold bpS
    rw [List.getLast?_concat, List.dropLast_concat]
    simp only []
    have h1 : bV (eB 4) [.bor P0, st, .bor (.list (O.map .int)), .bor (.int w), .own (.list ((A ++ [q]).map encP)), .val (.int (f : Nat)), .val (.int (l : Nat))] = some true := by
      have : (A ++ [q]).map encP ≠ [] := by simp
      generalize (A ++ [q]).map encP = L at *
      cases L with
      | nil => exact absurd rfl this
      | cons a r => simp
    have h2 : bT (eOp oLe (eOp oSub (eOp oIx (eB 2) (eB 6)) (eOp oIx (eB 2) (eOp oIx (eOp oIx (eB 4) (eUn oNeg (eK (.int 1)))) (eK (.int 0))))) (eB 3)) [.bor P0, st, .bor (.list (O.map .int)), .bor (.int w), .own (.list ((A ++ [q]).map encP)), .val (.int (f : Nat)), .val (.int (l : Nat))] = some (decide (O.getD l 0 - O.getD q.1 0 ≤ w)) := by
      have g5 : oIx (encP q) (.int 0) = some (.int (q.1 : Nat)) := rfl
      have g1' : oIx (.list (O.map .int)) (.int (l : Nat)) = _ := g1
      have g2' : oIx (.list (O.map .int)) (.int (q.1 : Nat)) = _ := g2
      have g3' : oIx (.list ((A ++ [q]).map encP)) (.int (-1)) = _ := g3
      generalize PyData.list ((A ++ [q]).map encP) = L at *
      generalize PyData.list (O.map .int) = OO at *
      generalize encP q = eq at *
      generalize (l : Int) = l' at *
      generalize (q.1 : Int) = q' at *
      simp only [bT_r, eOp_r, eUn_r, eK_r, eB_s, eB_0b, eB_0v, eB_0o, Option.bind_some, oNeg_i, g1', g3', g5, g2', oSub_i]
      simp
    have h3 : bAnd (bV (eB 4)) (bT (eOp oLe (eOp oSub (eOp oIx (eB 2) (eB 6)) (eOp oIx (eB 2) (eOp oIx (eOp oIx (eB 4) (eUn oNeg (eK (.int 1)))) (eK (.int 0))))) (eB 3))) [.bor P0, st, .bor (.list (O.map .int)), .bor (.int w), .own (.list ((A ++ [q]).map encP)), .val (.int (f : Nat)), .val (.int (l : Nat))] = some (decide (O.getD l 0 - O.getD q.1 0 ≤ w)) := by
      rw [bAnd_r, h1]
      simp only [Option.bind_some, if_true]
      exact h2
    unfold L_break_paragraph_1
    rw [sIf_r, h3]
    by_cases c : O.getD l 0 - O.getD q.1 0 ≤ w
    · rw [decide_eq_true c, if_pos c]
      simp only [Option.bind_some, if_true]
      have g5 : oIx (encP q) (.int 0) = some (.int (q.1 : Nat)) := rfl
      have g3' : oIx (.list ((A ++ [q]).map encP)) (.int (-1)) = _ := g3
      have hv : (eTup (aCons (eOp oIx (eOp oIx (eB 4) (eUn oNeg (eK (.int 1)))) (eK (.int 0))) (aCons (eV 6) aNil))) [.bor P0, st, .bor (.list (O.map .int)), .bor (.int w), .own (.list ((A ++ [q]).map encP)), .val (.int (f : Nat)), .val (.int (l : Nat))] = some (encP (q.1, l)) := by
        simp only [eTup_r, aCons_r, aNil_r, eOp_r, eUn_r, eK_r, eV_s, eV_0, eB_s, eB_0o, Option.bind_some, oNeg_i, g3', g5]
        rw [if_pos (by rw [sizeLine_eq]; simp)]; rfl
      have hs : fSet ((A ++ [q]).map encP) [.int (-1), encP (q.1, l)] = some (.list ((A ++ [(q.1, l)]).map encP)) := by
        unfold fSet
        simp only []
        rw [g4]
        simp
      show (sPut 4 _ _) _ = _
      unfold sPut
      rw [hv]
      simp only [Option.bind_some, List.getElem?_cons_succ, List.getElem?_cons_zero, eUn_r, eK_r, oNeg_i, hs]
      rfl
    · rw [decide_eq_false c, if_neg c]
      simp only [Option.bind_some]
      rw [if_neg (by decide)]
      have hv : (eTup (aCons (eV 5) (aCons (eV 6) aNil))) [.bor P0, st, .bor (.list (O.map .int)), .bor (.int w), .own (.list ((A ++ [q]).map encP)), .val (.int (f : Nat)), .val (.int (l : Nat))] = some (encP (f, l)) := by
        simp only [eTup_r, aCons_r, aNil_r, eV_s, eV_0, Option.bind_some]
        rw [if_pos (by rw [sizeLine_eq]; simp)]; rfl
      rw [sMut_r]
      simp only [getS]
      rw [aCons_r, hv]
      simp only [aNil_r, Option.bind_some, fApp_r]
      rw [if_pos lt]
      simp
/-! ### greedy lines -/
def brk (O : List Int) (w : Int) : Nat × Nat → List (Nat × Nat) → List (Nat × Nat)
  | q, [] => [q]
  | q, p :: ps => if O.getD p.2 0 - O.getD q.1 0 ≤ w then brk O w (q.1, p.2) ps else q :: brk O w p ps
def brkP (O : List Int) (w : Int) (s : Nat) : List (Nat × Nat) → List (Nat × Nat)
  | [] => [(s, s)]
  | p :: ps => brk O w p ps
theorem bpS_one (O : List Int) (w : Int) (acc : List (Nat × Nat)) (q p : Nat × Nat) : bpS O w (acc ++ [q]) p = if O.getD p.2 0 - O.getD q.1 0 ≤ w then acc ++ [(q.1, p.2)] else (acc ++ [q]) ++ [p] := by
  unfold bpS; rw [List.getLast?_concat, List.dropLast_concat]
theorem bpS_brk (O : List Int) (w : Int) : ∀ (ps acc : List (Nat × Nat)) (q : Nat × Nat), ps.foldl (bpS O w) (acc ++ [q]) = acc ++ brk O w q ps
  | [], acc, q => rfl
  | p :: ps, acc, q => by
    rw [List.foldl_cons, brk, bpS_one]
    split
    · exact bpS_brk O w ps acc _
    · rw [bpS_brk O w ps (acc ++ [q]) p, List.append_assoc]; rfl
theorem bpS_mem (O : List Int) (w : Int) (acc : List (Nat × Nat)) (p : Nat × Nat) (P : Nat → Prop) (hp : P p.1) (ha : ∀ q ∈ acc, P q.1) : (∀ q ∈ bpS O w acc p, P q.1) ∧ (bpS O w acc p).length ≤ acc.length + 1 := by
  rcases List.eq_nil_or_concat acc with rfl | ⟨A, q, rfl⟩
  · exact ⟨fun q hq => by rw [show bpS O w [] p = [p] from rfl, List.mem_singleton] at hq; rw [hq]; exact hp, by simp [bpS]⟩
  · rw [List.concat_eq_append] at *
    rw [bpS_one]
    split
    · refine ⟨fun x hx => ?_, by simp⟩
      rcases List.mem_append.mp hx with hx | hx
      · exact ha x (by simp [hx])
      · rw [List.mem_singleton.mp hx]; exact ha q (by simp)
    · refine ⟨fun x hx => ?_, by simp⟩
      rcases List.mem_append.mp hx with hx | hx
      · exact ha x hx
      · rw [List.mem_singleton.mp hx]; exact hp
theorem bpGo (P0 : PyData) (st : Slot) (O : List Int) (w : Int) : ∀ (ps acc : List (Nat × Nat)) (s5 s6 : Slot), (∀ p ∈ ps, p.1 < O.length ∧ p.2 < O.length) → (∀ q ∈ acc, q.1 < O.length) → acc.length + ps.length ≤ 5000 →
    ∃ s5' s6', forGo (gT 2 (gsCons (gV 5) (gsCons (gV 6) gsNil))) L_break_paragraph_1 (ps.map encP) [.bor P0, st, .bor (.list (O.map .int)), .bor (.int w), .own (.list (acc.map encP)), s5, s6] = some (.nx [.bor P0, st, .bor (.list (O.map .int)), .bor (.int w), .own (.list ((ps.foldl (bpS O w) acc).map encP)), s5', s6'])
  | [], acc, s5, s6, _, _, _ => ⟨s5, s6, rfl⟩
  | p :: ps, acc, s5, s6, h1, h2, h3 => by
    have hp := h1 p List.mem_cons_self
    rw [List.length_cons] at h3
    obtain ⟨m1, m2⟩ := bpS_mem O w acc p (fun x => x < O.length) hp.1 h2
    obtain ⟨a, b, e⟩ := bpGo P0 st O w ps (bpS O w acc p) (.val (.int (p.1 : Nat))) (.val (.int (p.2 : Nat))) (fun q hq => h1 q (List.mem_cons_of_mem _ hq)) m1 (by omega)
    refine ⟨a, b, ?_⟩
    have hg : (gT 2 (gsCons (gV 5) (gsCons (gV 6) gsNil))) (encP p) [.bor P0, st, .bor (.list (O.map .int)), .bor (.int w), .own (.list (acc.map encP)), s5, s6] = some [.bor P0, st, .bor (.list (O.map .int)), .bor (.int w), .own (.list (acc.map encP)), .val (.int (p.1 : Nat)), .val (.int (p.2 : Nat))] := rfl
    rw [List.map_cons, forGo, hg, Option.bind_some, bp_step P0 st O w acc p hp.2 h2 (by omega), Option.bind_some]
    exact e
theorem bp_eq (O : List Int) (w : Int) (F : List (Nat × Nat)) (s : Nat) (hF : ∀ p ∈ F, p.1 < O.length ∧ p.2 < O.length) (hl : F.length ≤ 4500) : F_break_paragraph [.list (F.map encP), .int (s : Nat), .list (O.map .int), .int w] = some (.list ((brkP O w s F).map encP)) := by
  refine box_rt rfl ?_
  show B_break_paragraph [.bor (.list (F.map encP)), .val (.int (s : Nat)), .bor (.list (O.map .int)), .bor (.int w), .un, .un, .un] = _
  obtain ⟨a, b, e⟩ := bpGo (.list (F.map encP)) (.val (.int (s : Nat))) O w F [] .un .un hF (fun q hq => by cases hq) (by simp; omega)
  unfold B_break_paragraph
  rw [seq_nx (ρ' := [.bor (.list (F.map encP)), .val (.int (s : Nat)), .bor (.list (O.map .int)), .bor (.int w), .own (.list []), .un, .un]) (by simp [size_le])]
  rw [List.map_nil] at e
  rw [seq_nx ((sFor_eq (ds := F.map encP) (by simp)).trans e)]
  cases F with
  | nil =>
    have h0 : (0 : Nat) < sizeLine := by rw [sizeLine_eq]; omega
    simp only [List.foldl_nil, List.map_nil, brkP]
    simp [size_le, h0, encP]
  | cons p ps =>
    have : (p :: ps).foldl (bpS O w) [] = brk O w p ps := by
      rw [List.foldl_cons, show bpS O w [] p = [] ++ [p] from rfl, bpS_brk, List.nil_append]
    rw [this, brkP]
    have hne : brk O w p ps ≠ [] := by
      clear this e hF hl
      induction ps generalizing p with
      | nil => simp [brk]
      | cons q ps ih =>
        rw [brk]; split
        · exact ih _
        · simp
    have hne : (brk O w p ps).map encP ≠ [] := by simpa using hne
    generalize (brk O w p ps).map encP = L at *
    cases L with
    | nil => exact absurd rfl hne
    | cons x r => simp
theorem encP_inj {p q : Nat × Nat} (h : encP p = encP q) : p = q := by
  obtain ⟨a, b⟩ := p
  obtain ⟨c, d⟩ := q
  unfold encP at h
  simp at h
  rw [show a = c by omega, show b = d by omega]
/-- the words of a part -/
noncomputable def wds (T : List Nat) (lo hi : Nat) : List (Nat × Nat) := Classical.epsilon fun F => F_words [tS T, .int (lo : Nat), .int (hi : Nat)] = some (.list (F.map encP))
theorem wds_ok (T : List Nat) (aT : Asc T) (lT : T.length ≤ 4000) (lo hi : Nat) (h1 : lo ≤ hi) (h2 : hi ≤ T.length) : F_words [tS T, .int (lo : Nat), .int (hi : Nat)] = some (.list ((wds T lo hi).map encP)) ∧ (wds T lo hi).length ≤ 4001 ∧ ∃ e, Chk T lo hi lo (wds T lo hi) e ∧ e ≤ hi ∧ lo ≤ e ∧ ∀ x, e ≤ x → x < hi → ¬ ltr T x := by
  obtain ⟨F, e, c1, c2, c3, c4, c5, c6⟩ := words_ex T aT lT lo hi h1 h2
  have hs : F_words [tS T, .int (lo : Nat), .int (hi : Nat)] = some (.list ((wds T lo hi).map encP)) := Classical.epsilon_spec (p := fun F => F_words [tS T, .int (lo : Nat), .int (hi : Nat)] = some (.list (F.map encP))) ⟨F, c1⟩
  have : wds T lo hi = F := by
    rw [c1] at hs
    simp only [Option.some.injEq, PyData.list.injEq] at hs
    exact (map_inj (fun h => encP_inj h) hs).symm
  rw [this]
  exact ⟨c1, c6, e, c2, c3, c4, c5⟩
noncomputable def linesV (O : List Int) (w : Int) (T : List Nat) : List (Nat × Nat) := (rowsV 0 (spN [] T)).flatMap fun r => brkP O w r.1 (wds T r.1 r.2)
theorem Chk.bound {T : List Nat} {lo hi : Nat} : ∀ {F : List (Nat × Nat)} {a e : Nat}, Chk T lo hi a F e → ∀ p ∈ F, a ≤ p.1 ∧ p.1 < p.2 ∧ p.2 ≤ hi
  | [], _, _, _, p, hp => by cases hp
  | (s, t) :: F, a, e, h, p, hp => by
    rcases List.mem_cons.mp hp with rfl | hp
    · exact ⟨h.1.1, h.1.2.1, h.1.2.2.1⟩
    · have := Chk.bound h.2 p hp
      have := h.1.1
      have := h.1.2.1
      omega
theorem Chk.len {T : List Nat} {lo hi : Nat} : ∀ {F : List (Nat × Nat)} {a e : Nat}, Chk T lo hi a F e → a + F.length ≤ e
  | [], a, e, h => by
    have : e = a := h
    simp [this]
  | (s, t) :: F, a, e, h => by
    have := Chk.len h.2
    have := h.1.1
    have := h.1.2.1
    simp only [List.length_cons]; omega
theorem brk_len (O : List Int) (w : Int) : ∀ (ps : List (Nat × Nat)) (q : Nat × Nat), (brk O w q ps).length ≤ ps.length + 1
  | [], q => by simp [brk]
  | p :: ps, q => by
    rw [brk]
    split
    · have := brk_len O w ps (q.1, p.2)
      simp only [List.length_cons]; omega
    · have := brk_len O w ps p
      simp only [List.length_cons]; omega
theorem brkP_len (O : List Int) (w : Int) (s : Nat) (ps : List (Nat × Nat)) : (brkP O w s ps).length ≤ ps.length + 1 := by
  cases ps with
  | nil => simp [brkP]
  | cons p ps =>
    have := brk_len O w ps p
    rw [brkP]
    simp only [List.length_cons]; omega
def FM {α β : Type} (f : α → List β) (l : List α) : List β := l.flatMap f
theorem blGo (T : List Nat) (aT : Asc T) (lT : T.length ≤ 4000) (sz : PyData) (O : List Int) (hO : O.length = T.length + 1) (w : Int) : ∀ (ps : List (Nat × Nat)) (acc : List (Nat × Nat)) (s5 s6 : Slot), (∀ r ∈ ps, r.1 ≤ r.2 ∧ r.2 ≤ T.length) → acc.length + ps.length * 4100 ≤ 16777000 →
    ∃ s5' s6', forGo (gT 2 (gsCons (gV 5) (gsCons (gV 6) gsNil))) L_break_lines_1 (ps.map encP) [.bor (tS T), .bor sz, .bor (.int w), .val (.list (O.map .int)), .own (.list (acc.map encP)), s5, s6] = some (.nx [.bor (tS T), .bor sz, .bor (.int w), .val (.list (O.map .int)), .own (.list ((acc ++ FM (fun r => brkP O w r.1 (wds T r.1 r.2)) ps).map encP)), s5', s6'])
  | [], acc, s5, s6, _, _ => ⟨s5, s6, by rw [FM, List.flatMap_nil, List.append_nil]; rfl⟩
  | r :: ps, acc, s5, s6, h1, h2 => by
    obtain ⟨r1, r2⟩ := h1 r List.mem_cons_self
    rw [List.length_cons] at h2
    obtain ⟨c1, c2, e0, c3, c4, c5, c6⟩ := wds_ok T aT lT r.1 r.2 r1 r2
    have hb := bp_eq O w (wds T r.1 r.2) r.1 (fun p hp => by have := c3.bound p hp; omega) (by omega)
    have hl := brkP_len O w r.1 (wds T r.1 r.2)
    obtain ⟨a, b, e⟩ := blGo T aT lT sz O hO w ps (acc ++ brkP O w r.1 (wds T r.1 r.2)) (.val (.int (r.1 : Nat))) (.val (.int (r.2 : Nat))) (fun q hq => h1 q (List.mem_cons_of_mem _ hq)) (by rw [List.length_append]; omega)
    refine ⟨a, b, ?_⟩
    have hg : (gT 2 (gsCons (gV 5) (gsCons (gV 6) gsNil))) (encP r) [.bor (tS T), .bor sz, .bor (.int w), .val (.list (O.map .int)), .own (.list (acc.map encP)), s5, s6] = some [.bor (tS T), .bor sz, .bor (.int w), .val (.list (O.map .int)), .own (.list (acc.map encP)), .val (.int (r.1 : Nat)), .val (.int (r.2 : Nat))] := rfl
    have st : L_break_lines_1 [.bor (tS T), .bor sz, .bor (.int w), .val (.list (O.map .int)), .own (.list (acc.map encP)), .val (.int (r.1 : Nat)), .val (.int (r.2 : Nat))] = some (.nx [.bor (tS T), .bor sz, .bor (.int w), .val (.list (O.map .int)), .own (.list ((acc ++ brkP O w r.1 (wds T r.1 r.2)).map encP)), .val (.int (r.1 : Nat)), .val (.int (r.2 : Nat))]) := by
      have hx := fExt_eq (l := acc.map encP) (k := (brkP O w r.1 (wds T r.1 r.2)).map encP) (by rw [List.length_map, List.length_map, sizeLine_eq]; omega)
      rw [List.map_append]
      generalize acc.map encP = A at *
      generalize (brkP O w r.1 (wds T r.1 r.2)).map encP = B at *
      generalize (wds T r.1 r.2).map encP = W at *
      generalize O.map PyData.int = OO at *
      generalize (r.1 : Int) = u at *
      generalize (r.2 : Int) = v at *
      simp [L_break_lines_1, c1, hb, hx]
    rw [List.map_cons, forGo, hg, Option.bind_some, st, Option.bind_some]
    simp only []
    rw [e, List.append_assoc]; rfl
theorem lines_eq (T : List Nat) (aT : Asc T) (lT : T.length ≤ 4000) (s w : Int) : F_break_lines [tS T, .int s, .int w] = some (.list ((linesV (offV T s) w T).map encP)) := by
  have ho := offsets_eq T (by omega) aT s
  have hp := para_eq T (by omega)
  have hj := spN_jn T []
  rw [List.nil_append] at hj
  have hb := rows_bound (spN [] T) 0 T.length (by rw [hj]; omega)
  have l1 := jn_len (spN [] T)
  rw [hj] at l1
  have l2 := rowsV_len 0 (spN [] T)
  obtain ⟨a, b, e⟩ := blGo T aT lT (.int s) (offV T s) (offV_len T s) w (rowsV 0 (spN [] T)) [] .un .un hb (by simp only [List.length_nil]; omega)
  refine box_rt rfl ?_
  show B_break_lines [.bor (tS T), .bor (.int s), .bor (.int w), .un, .un, .un, .un] = _
  unfold B_break_lines
  generalize hO : offV T s = O at *
  generalize hR : rowsV 0 (spN [] T) = R at *
  rw [seq_nx (ρ' := [.bor (tS T), .bor (.int s), .bor (.int w), .val (.list (O.map .int)), .un, .un, .un]) (by simp [ho])]
  rw [seq_nx (ρ' := [.bor (tS T), .bor (.int s), .bor (.int w), .val (.list (O.map .int)), .own (.list []), .un, .un]) (by simp [size_le])]
  rw [List.map_nil] at e
  rw [seq_nx ((sFor_eq (ds := R.map encP) (by simp [hp])).trans e)]
  simp only [sRetOwn_r, getS_s, getS_0]
  unfold linesV
  rw [hR, List.nil_append, FM]
/-! ### what lines are -/
def Gp0 (T : List Nat) (a s : Nat) : Prop := a ≤ s ∧ ∀ x, a ≤ x → x < s → T.getD x 0 = 32
def Gp1 (T : List Nat) (a s : Nat) : Prop := ∃ b, a ≤ b ∧ b < s ∧ T.getD b 0 = 10 ∧ Gp0 T a b ∧ Gp0 T (b + 1) s
def RowE (T : List Nat) (r : Nat × Nat) : Prop := r.1 = r.2 ∧ (r.1 = 0 ∨ T.getD (r.1 - 1) 0 = 10) ∧ ∃ e, r.1 ≤ e ∧ e ≤ T.length ∧ (e = T.length ∨ T.getD e 0 = 10) ∧ ∀ x, r.1 ≤ x → x < e → T.getD x 0 = 32
def RowW (T : List Nat) (O : List Int) (w : Int) (r : Nat × Nat) : Prop := r.1 < r.2 ∧ r.2 ≤ T.length ∧ ltr T r.1 ∧ ltr T (r.2 - 1) ∧ (∀ x, r.1 ≤ x → x < r.2 → T.getD x 0 ≠ 10) ∧ (r.1 = 0 ∨ ¬ ltr T (r.1 - 1)) ∧ (r.2 = T.length ∨ ¬ ltr T r.2) ∧ (O.getD r.2 0 - O.getD r.1 0 ≤ w ∨ ∀ x, r.1 ≤ x → x < r.2 → ltr T x)
def WEnd (T : List Nat) (s t : Nat) : Prop := s < t ∧ t ≤ T.length ∧ (∀ x, s ≤ x → x < t → ltr T x) ∧ (t = T.length ∨ ¬ ltr T t)
def RowG (T : List Nat) (O : List Int) (w : Int) (r : Nat × Nat) : Prop := RowE T r ∨ RowW T O w r
def Jn (T : List Nat) (O : List Int) (w : Int) (r r' : Nat × Nat) : Prop := Gp1 T r.2 r'.1 ∨ (Gp0 T r.2 r'.1 ∧ r.1 < r.2 ∧ r'.1 < r'.2 ∧ ∃ t, WEnd T r'.1 t ∧ w < O.getD t 0 - O.getD r.1 0)
def Lns (T : List Nat) (O : List Int) (w : Int) (hi : Nat) : Nat × Nat → List (Nat × Nat) → Prop
  | r, [] => RowG T O w r ∧ Gp0 T r.2 hi
  | r, r' :: R => RowG T O w r ∧ Jn T O w r r' ∧ Lns T O w hi r' R
theorem Gp0.app {T : List Nat} {a b c : Nat} (h : Gp0 T a b) (h2 : Gp0 T b c) : Gp0 T a c := ⟨Nat.le_trans h.1 h2.1, fun x h3 h4 => if z : x < b then h.2 x h3 z else h2.2 x (by omega) h4⟩
theorem Lns.app {T : List Nat} {O : List Int} {w : Int} {b hi : Nat} {r : Nat × Nat} {R : List (Nat × Nat)} (hb : T.getD b 0 = 10) (hg : Gp0 T (b + 1) r.1) (h2 : Lns T O w hi r R) : ∀ {A : List (Nat × Nat)} {q : Nat × Nat}, Lns T O w b q A → Lns T O w hi q (A ++ r :: R)
  | [], q, h => ⟨h.1, .inl ⟨b, h.2.1, hg.1, hb, h.2, hg⟩, h2⟩
  | q' :: A, q, h => ⟨h.1, h.2.1, Lns.app hb hg h2 h.2.2⟩
theorem brk_lns {T : List Nat} {O : List Int} {w : Int} {a b e : Nat} (hbT : b ≤ T.length) (hb : b = T.length ∨ T.getD b 0 = 10) (hn : ∀ x, a ≤ x → x < b → T.getD x 0 ≠ 10) (ha : a = 0 ∨ T.getD (a - 1) 0 = 10) (he : ∀ x, e ≤ x → x < b → ¬ ltr T x) (heb : e ≤ b) :
    ∀ (ps : List (Nat × Nat)) (q : Nat × Nat), a ≤ q.1 → RowW T O w q → Chk T a b q.2 ps e → ∃ r R, brk O w q ps = r :: R ∧ r.1 = q.1 ∧ r.1 < r.2 ∧ Lns T O w b r R
  | [], q, h0, h1, h2 => by
    have h2 : e = q.2 := h2
    subst h2
    exact ⟨q, [], rfl, rfl, h1.1, .inr h1, heb, fun x h3 h4 => by
      have := he x h3 h4
      have := hn x (by have := h1.1; omega) h4
      by_cases z : T.getD x 0 = 32
      · exact z
      · exact absurd ⟨z, this⟩ (he x h3 h4)⟩
  | (s, t) :: ps, q, h0, h1, h2 => by
    obtain ⟨⟨p1, p2, p3, p4, p5, p6, p7⟩, p8⟩ := h2
    have hqs : Gp0 T q.2 s := ⟨p1, fun x h3 h4 => by
      have := hn x (by have := h1.1; omega) (by omega)
      by_cases z : T.getD x 0 = 32
      · exact z
      · exact absurd ⟨z, this⟩ (p4 x h3 h4)⟩
    have hend : t = T.length ∨ ¬ ltr T t := by
      by_cases z : t < b
      · exact .inr (p7 z)
      · have : t = b := by omega
        subst this
        rcases hb with h | h
        · exact .inl h
        · exact .inr fun z => z.2 h
    have hq := h1.1
    rw [brk]
    simp only []
    by_cases c : O.getD t 0 - O.getD q.1 0 ≤ w
    · rw [if_pos c]
      exact brk_lns hbT hb hn ha he heb ps (q.1, t) h0 ⟨by show q.1 < t; omega, by show t ≤ _; omega, h1.2.2.1, p5 (t - 1) (by omega) (by omega), fun x h3 h4 => hn x (by simp only [] at *; omega) (by simp only [] at *; omega), h1.2.2.2.2.2.1, hend, .inl c⟩ p8
    · rw [if_neg c]
      have has : a ≤ s := by omega
      have hs : s = 0 ∨ ¬ ltr T (s - 1) := by
        by_cases z : a < s
        · exact .inr (p6 z)
        · omega
      obtain ⟨r, R, e1, e2, e3, e4⟩ := brk_lns hbT hb hn ha he heb ps (s, t) has ⟨p2, by show t ≤ _; omega, p5 s (Nat.le_refl _) p2, p5 (t - 1) (by omega) (by omega), fun x h3 h4 => hn x (by simp only [] at *; omega) (by simp only [] at *; omega), hs, hend, .inr p5⟩ p8
      simp only [] at e2
      rw [e1]
      exact ⟨q, r :: R, rfl, rfl, hq, .inr h1, .inr ⟨by rw [e2]; exact hqs, hq, e3, t, by rw [e2]; exact ⟨p2, by omega, p5, hend⟩, by omega⟩, e4⟩
theorem brkP_lns {T : List Nat} {O : List Int} {w : Int} {a b e : Nat} (hab : a ≤ b) (hbT : b ≤ T.length) (hb : b = T.length ∨ T.getD b 0 = 10) (hn : ∀ x, a ≤ x → x < b → T.getD x 0 ≠ 10) (ha : a = 0 ∨ T.getD (a - 1) 0 = 10) (he : ∀ x, e ≤ x → x < b → ¬ ltr T x) (heb : e ≤ b)
    (ps : List (Nat × Nat)) (h : Chk T a b a ps e) : ∃ r R, brkP O w a ps = r :: R ∧ Gp0 T a r.1 ∧ Lns T O w b r R := by
  have sp : ∀ x, a ≤ x → x < b → ¬ ltr T x → T.getD x 0 = 32 := fun x h1 h2 h3 => by
    by_cases z : T.getD x 0 = 32
    · exact z
    · exact absurd ⟨z, hn x h1 h2⟩ h3
  cases ps with
  | nil =>
    have h : e = a := h
    subst h
    exact ⟨(e, e), [], rfl, ⟨Nat.le_refl _, fun x h1 h2 => absurd (Nat.lt_of_le_of_lt h1 h2) (Nat.lt_irrefl _)⟩, .inl ⟨rfl, ha, b, hab, hbT, hb, fun x h1 h2 => sp x h1 h2 (he x h1 h2)⟩, hab, fun x h1 h2 => sp x h1 h2 (he x h1 h2)⟩
  | cons p ps =>
    obtain ⟨s, t⟩ := p
    obtain ⟨⟨p1, p2, p3, p4, p5, p6, p7⟩, p8⟩ := h
    have hend : t = T.length ∨ ¬ ltr T t := by
      by_cases z : t < b
      · exact .inr (p7 z)
      · have : t = b := by omega
        subst this
        rcases hb with h | h
        · exact .inl h
        · exact .inr fun z => z.2 h
    have hs : s = 0 ∨ ¬ ltr T (s - 1) := by
      by_cases z : a < s
      · exact .inr (p6 z)
      · have : s = a := by omega
        subst this
        rcases ha with h | h
        · exact .inl h
        · exact .inr fun z => z.2 h
    obtain ⟨r, R, e1, e2, e3, e4⟩ := brk_lns hbT hb hn ha he heb ps (s, t) p1 ⟨p2, by show t ≤ _; omega, p5 s (Nat.le_refl _) p2, p5 (t - 1) (by omega) (by omega), fun x h3 h4 => hn x (by simp only [] at *; omega) (by simp only [] at *; omega), hs, hend, .inr p5⟩ p8
    simp only [] at e2
    exact ⟨r, R, e1, by rw [e2]; exact ⟨p1, fun x h1 h2 => sp x h1 (by omega) (p4 x h1 h2)⟩, e4⟩
def Par (T : List Nat) : Nat → List (Nat × Nat) → Prop
  | _, [] => False
  | s, [r] => r.1 = s ∧ r.2 = T.length ∧ r.1 ≤ r.2 ∧ ∀ x, r.1 ≤ x → x < r.2 → T.getD x 0 ≠ 10
  | s, r :: r' :: R => r.1 = s ∧ r.1 ≤ r.2 ∧ r.2 < T.length ∧ T.getD r.2 0 = 10 ∧ (∀ x, r.1 ≤ x → x < r.2 → T.getD x 0 ≠ 10) ∧ Par T (r.2 + 1) (r' :: R)
theorem par_rows (T : List Nat) : ∀ (ps : List (List Nat)) (pre : List Nat), ps ≠ [] → (∀ p ∈ ps, 10 ∉ p) → pre ++ jn ps = T → Par T pre.length (rowsV pre.length ps)
  | [], _, h, _, _ => absurd rfl h
  | [p], pre, _, hf, hT => by
    rw [jn] at hT
    subst hT
    refine ⟨rfl, by simp, by simp, fun x h1 h2 => ?_⟩
    simp only [] at h1 h2
    have : (pre ++ p).getD x 0 ∈ p := by
      rw [List.getD_eq_getElem?_getD, List.getElem?_append_right h1, List.getElem?_eq_getElem (by omega)]
      exact List.getElem_mem _
    exact fun z => hf p (by simp) (z ▸ this)
  | p :: q :: ps, pre, _, hf, hT => by
    have ih := par_rows T (q :: ps) (pre ++ p ++ [10]) (by simp) (fun x hx => hf x (List.mem_cons_of_mem _ hx)) (by rw [← hT, jn]; simp)
    rw [jn] at hT
    have e : (pre ++ p ++ [10]).length = pre.length + p.length + 1 := by simp; omega
    rw [e] at ih
    rw [rowsV]
    rw [rowsV] at ih ⊢
    refine ⟨rfl, by simp, by rw [← hT]; simp, ?_, fun x h1 h2 => ?_, ih⟩
    · rw [← hT, List.getD_eq_getElem?_getD, ← List.append_assoc, List.getElem?_append_right (by simp)]
      simp
    · simp only [] at h1 h2
      have : T.getD x 0 ∈ p := by
        rw [← hT, List.getD_eq_getElem?_getD, List.getElem?_append_right h1, List.getElem?_append_left (by omega), List.getElem?_eq_getElem (by omega)]
        exact List.getElem_mem _
      exact fun z => hf p (by simp) (z ▸ this)
theorem par_lns {T : List Nat} (aT : Asc T) (lT : T.length ≤ 4000) (O : List Int) (w : Int) : ∀ (P : List (Nat × Nat)) (s : Nat), Par T s P → (s = 0 ∨ T.getD (s - 1) 0 = 10) → ∃ r R, FM (fun r => brkP O w r.1 (wds T r.1 r.2)) P = r :: R ∧ Gp0 T s r.1 ∧ Lns T O w T.length r R ∧ P.length ≤ R.length + 1
  | [], s, h, _ => h.elim
  | [p], s, h, hs => by
    obtain ⟨h1, h2, h3, h4⟩ := h
    obtain ⟨c1, c2, e0, c3, c4, c5, c6⟩ := wds_ok T aT lT p.1 p.2 h3 (by omega)
    obtain ⟨r, R, d1, d2, d3⟩ := brkP_lns (O := O) (w := w) h3 (by omega) (.inl h2) h4 (by rw [h1]; exact hs) c6 c4 _ c3
    refine ⟨r, R, by unfold FM; simp [d1], by rw [← h1]; exact d2, by rw [← h2]; exact d3, by simp⟩
  | p :: p' :: P, s, h, hs => by
    obtain ⟨h1, h2, h3, h4, h5, h6⟩ := h
    obtain ⟨c1, c2, e0, c3, c4, c5, c6⟩ := wds_ok T aT lT p.1 p.2 h2 (by omega)
    obtain ⟨r, R, d1, d2, d3⟩ := brkP_lns (O := O) (w := w) h2 (by omega) (.inr h4) h5 (by rw [h1]; exact hs) c6 c4 _ c3
    obtain ⟨r', R', f1, f2, f3, f4⟩ := par_lns aT lT O w (p' :: P) (p.2 + 1) h6 (.inr h4)
    refine ⟨r, R ++ r' :: R', ?_, by rw [← h1]; exact d2, Lns.app h4 f2 f3 d3, ?_⟩
    · unfold FM at f1 ⊢
      rw [List.flatMap_cons, d1, f1]; rfl
    · simp only [List.length_cons, List.length_append] at f4 ⊢
      omega
theorem lines_lns (T : List Nat) (aT : Asc T) (lT : T.length ≤ 4000) (O : List Int) (w : Int) : ∃ r R, linesV O w T = r :: R ∧ Gp0 T 0 r.1 ∧ Lns T O w T.length r R ∧ (spN [] T).length ≤ R.length + 1 := by
  have hj := spN_jn T []
  rw [List.nil_append] at hj
  have hp := par_rows T (spN [] T) [] (spN_ne _ _) (spN_free T [] (by simp)) (by rw [hj]; rfl)
  have := par_lns aT lT O w _ _ hp (.inl rfl)
  rw [show ([] : List Nat).length = 0 from rfl, rowsV_len] at this
  exact this
/-- by places -/
theorem Lns.row {T : List Nat} {O : List Int} {w : Int} {hi : Nat} : ∀ {R : List (Nat × Nat)} {r : Nat × Nat}, Lns T O w hi r R → ∀ x ∈ r :: R, RowG T O w x
  | [], r, h, x, hx => by rw [List.mem_singleton.mp hx]; exact h.1
  | r' :: R, r, h, x, hx => by
    rcases List.mem_cons.mp hx with rfl | hx
    · exact h.1
    · exact Lns.row h.2.2 x hx
theorem Lns.nbr {T : List Nat} {O : List Int} {w : Int} {hi : Nat} : ∀ {R : List (Nat × Nat)} {r : Nat × Nat}, Lns T O w hi r R → ∀ (k : Nat) (x y : Nat × Nat), (r :: R)[k]? = some x → (r :: R)[k + 1]? = some y → Jn T O w x y
  | [], r, h, k, x, y, h1, h2 => by simp at h2
  | r' :: R, r, h, 0, x, y, h1, h2 => by
    simp at h1 h2
    rw [← h1, ← h2]; exact h.2.1
  | r' :: R, r, h, k + 1, x, y, h1, h2 => by
    rw [List.getElem?_cons_succ] at h1 h2
    exact Lns.nbr h.2.2 k x y h1 h2
theorem RowG.le {T : List Nat} {O : List Int} {w : Int} {r : Nat × Nat} (h : RowG T O w r) : r.1 ≤ r.2 ∧ r.2 ≤ T.length := by
  rcases h with ⟨h1, h2, e, h3, h4, h5⟩ | h
  · omega
  · have := h.1
    have := h.2.1
    omega
theorem Jn.lt {T : List Nat} {O : List Int} {w : Int} {r r' : Nat × Nat} (h : Jn T O w r r') (h2 : r.1 ≤ r.2) : r.1 < r'.1 ∧ r.2 ≤ r'.1 := by
  rcases h with ⟨b, h3, h4, _⟩ | ⟨h3, h4, _⟩
  · omega
  · have := h3.1
    omega
theorem Lns.count {T : List Nat} {O : List Int} {w : Int} {hi : Nat} : ∀ {R : List (Nat × Nat)} {r : Nat × Nat}, Lns T O w hi r R → r.1 + R.length ≤ T.length
  | [], r, h => by
    have := h.1.le
    simp only [List.length_nil]; omega
  | r' :: R, r, h => by
    have := Lns.count h.2.2
    have := h.2.1.lt h.1.le.1
    simp only [List.length_cons]; omega
theorem lines_len (T : List Nat) (aT : Asc T) (lT : T.length ≤ 4000) (O : List Int) (w : Int) : (linesV O w T).length ≤ T.length + 1 := by
  obtain ⟨r, R, h1, h2, h3, h4⟩ := lines_lns T aT lT O w
  have := h3.count
  rw [h1, List.length_cons]; omega
theorem Lns.last {T : List Nat} {O : List Int} {w : Int} {hi : Nat} : ∀ {R : List (Nat × Nat)} {r : Nat × Nat}, Lns T O w hi r R → ∀ p, (r :: R).getLast? = some p → Gp0 T p.2 hi
  | [], r, h, p, hp => by
    have : r = p := by simpa using hp
    rw [← this]; exact h.2
  | r' :: R, r, h, p, hp => Lns.last h.2.2 p (by rw [List.getLast?_cons_cons] at hp; exact hp)
/-! ### blanks -/
def blk (l : List Nat) : Bool := l.all fun c => c == 32 || c == 10
def tw (l : List Nat) : List Nat := l.takeWhile fun c => c != 10
def restV (T : List Nat) (a : Nat) : List Nat := tw (T.drop a)
theorem neC {c d : Nat} (hc : c < 128) (hd : d < 128) : oNe (tS [c]) (tS [d]) = some (.bool (!decide (c = d))) := by
  rw [tNe (Asc.one hc) (Asc.one hd)]
  by_cases h : c = d
  · subst h; simp
  · have : ¬ [c] = [d] := by simpa using h
    rw [decide_eq_false h, decide_eq_false this]
theorem eqC {c d : Nat} (hc : c < 128) (hd : d < 128) : oEq (tS [c]) (tS [d]) = some (.bool (decide (c = d))) := by
  rw [tEq (Asc.one hc) (Asc.one hd)]
  by_cases h : c = d
  · subst h; simp
  · have : ¬ [c] = [d] := by simpa using h
    rw [decide_eq_false h, decide_eq_false this]
theorem blankGo (x : Slot) : ∀ (l : List Nat), Asc l → ∀ s, (∃ s', forGo (gV 1) L__law_is_blank_1 (l.map fun c => tS [c]) [x, s] = some (.nx [x, s']) ∧ blk l = true) ∨ (forGo (gV 1) L__law_is_blank_1 (l.map fun c => tS [c]) [x, s] = some (.rt (.bool false)) ∧ blk l = false)
  | [], _, s => .inl ⟨s, rfl, rfl⟩
  | c :: r, h, s => by
    have hc := h c List.mem_cons_self
    have n1 := neC (d := 32) hc (by decide)
    have n2 := neC (d := 10) hc (by decide)
    have hg : gV 1 (tS [c]) [x, s] = some [x, .val (tS [c])] := rfl
    have ih := blankGo x r (fun y hy => h y (List.mem_cons_of_mem _ hy)) (.val (tS [c]))
    rw [List.map_cons, forGo, hg, Option.bind_some]
    have st : L__law_is_blank_1 [x, .val (tS [c])] = if c = 32 ∨ c = 10 then some (.nx [x, .val (tS [c])]) else some (.rt (.bool false)) := by
      unfold L__law_is_blank_1
      rw [lit_sp, lit_nl]
      simp only [eK_r, eV_0, eV_s, eB_0v, eB_0b, eB_0p, eB_0o, eB_s, eP_0v, eP_0b, eP_s, eS_0, eS_s, getS_0, getS_s, aNil_r, aCons_r, eOp_r, eUn_r, eCall_r, eBm_r, eTup_r, eLst_r, eIf_r, eAnd_r, eOr_r, eNot_r, eIs_r, eChain_r, eSl_r, oNo_r, oSo_r, asI_r, bT_r, bV_r, bYes_r, asB_r, truth_b, truth_l, truth_t, truth_n, truth_i, bAnd_r, bOr_r, bNot_r, oAdd_i, oSub_i, oNeg_i, oLt_i, oLe_i, oGt_i, oGe_i, cInt_i, cInt_b, cLen_l, cLen_t, cList_l, cList_t, cMax2_i, cMin2_i, cAbs_i, isT_int_i, isT_bool_i, isT_bool_b, isT_int_b, isT_tuple_t, isT_list_l, oEq_i, oNe_i, oEq_b, oNe_b, oIsN_n, oNotN_n, oIsN_i, oNotN_i, oIsB_b, oNotB_b, sSeqn_r, sNext_r, sBrk_r, sCnt_r, sRetN_r, sExpr_r, sRet_r, sRetOwn_r, sIf_r, sSet_r, sOwn_r, sAsg_r, gV_r, gT_r, gsNil_r, gsCons_r, sFz_r, sAug_r, addI_r, subI_r, sSeq_r, sArgs_r, itemsOf_l, itemsOf_t, sMut_r, fApp_r, Option.bind_some, Option.map_some, List.length_cons, List.length_nil, Nat.zero_add, Nat.reduceAdd, Nat.reduceLT, Nat.reduceLeDiff, List.set_cons_zero, List.set_cons_succ, if_true, Bool.false_eq_true, if_false, Bool.not_true, Bool.not_false, decide_true, decide_false, reduceCtorEq, n1, n2]
      by_cases h1 : c = 32
      · subst h1; rfl
      · by_cases h2 : c = 10
        · subst h2; rfl
        · simp only [eK_r, eV_0, eV_s, eB_0v, eB_0b, eB_0p, eB_0o, eB_s, eP_0v, eP_0b, eP_s, eS_0, eS_s, getS_0, getS_s, aNil_r, aCons_r, eOp_r, eUn_r, eCall_r, eBm_r, eTup_r, eLst_r, eIf_r, eAnd_r, eOr_r, eNot_r, eIs_r, eChain_r, eSl_r, oNo_r, oSo_r, asI_r, bT_r, bV_r, bYes_r, asB_r, truth_b, truth_l, truth_t, truth_n, truth_i, bAnd_r, bOr_r, bNot_r, oAdd_i, oSub_i, oNeg_i, oLt_i, oLe_i, oGt_i, oGe_i, cInt_i, cInt_b, cLen_l, cLen_t, cList_l, cList_t, cMax2_i, cMin2_i, cAbs_i, isT_int_i, isT_bool_i, isT_bool_b, isT_int_b, isT_tuple_t, isT_list_l, oEq_i, oNe_i, oEq_b, oNe_b, oIsN_n, oNotN_n, oIsN_i, oNotN_i, oIsB_b, oNotB_b, sSeqn_r, sNext_r, sBrk_r, sCnt_r, sRetN_r, sExpr_r, sRet_r, sRetOwn_r, sIf_r, sSet_r, sOwn_r, sAsg_r, gV_r, gT_r, gsNil_r, gsCons_r, sFz_r, sAug_r, addI_r, subI_r, sSeq_r, sArgs_r, itemsOf_l, itemsOf_t, sMut_r, fApp_r, Option.bind_some, Option.map_some, List.length_cons, List.length_nil, Nat.zero_add, Nat.reduceAdd, Nat.reduceLT, Nat.reduceLeDiff, List.set_cons_zero, List.set_cons_succ, if_true, Bool.false_eq_true, if_false, Bool.not_true, Bool.not_false, decide_true, decide_false, reduceCtorEq, h1, h2, or_self]
    have hb : blk (c :: r) = ((c == 32 || c == 10) && blk r) := rfl
    rw [st, hb]
    by_cases h1 : c = 32 ∨ c = 10
    · rw [if_pos h1]
      have : (c == 32 || c == 10) = true := by simpa using h1
      rw [this, Bool.true_and]
      exact ih
    · rw [if_neg h1]
      have : (c == 32 || c == 10) = false := by
        rw [not_or] at h1; simp [h1.1, h1.2]
      rw [this]
      exact .inr ⟨rfl, rfl⟩
theorem blank_eq (l : List Nat) (h : Asc l) : F__law_is_blank [tS l] = some (.bool (blk l)) := by
  refine box_rt rfl ?_
  show B__law_is_blank [.bor (tS l), .un] = _
  unfold B__law_is_blank
  have hf : sFor (sSeq (eP 0)) (gV 1) L__law_is_blank_1 [.bor (tS l), .un] = forGo (gV 1) L__law_is_blank_1 (l.map fun c => tS [c]) [.bor (tS l), .un] := sFor_eq (by simp only [eK_r, eV_0, eV_s, eB_0v, eB_0b, eB_0p, eB_0o, eB_s, eP_0v, eP_0b, eP_s, eS_0, eS_s, getS_0, getS_s, aNil_r, aCons_r, eOp_r, eUn_r, eCall_r, eBm_r, eTup_r, eLst_r, eIf_r, eAnd_r, eOr_r, eNot_r, eIs_r, eChain_r, eSl_r, oNo_r, oSo_r, asI_r, bT_r, bV_r, bYes_r, asB_r, truth_b, truth_l, truth_t, truth_n, truth_i, bAnd_r, bOr_r, bNot_r, oAdd_i, oSub_i, oNeg_i, oLt_i, oLe_i, oGt_i, oGe_i, cInt_i, cInt_b, cLen_l, cLen_t, cList_l, cList_t, cMax2_i, cMin2_i, cAbs_i, isT_int_i, isT_bool_i, isT_bool_b, isT_int_b, isT_tuple_t, isT_list_l, oEq_i, oNe_i, oEq_b, oNe_b, oIsN_n, oNotN_n, oIsN_i, oNotN_i, oIsB_b, oNotB_b, sSeqn_r, sNext_r, sBrk_r, sCnt_r, sRetN_r, sExpr_r, sRet_r, sRetOwn_r, sIf_r, sSet_r, sOwn_r, sAsg_r, gV_r, gT_r, gsNil_r, gsCons_r, sFz_r, sAug_r, addI_r, subI_r, sSeq_r, sArgs_r, itemsOf_l, itemsOf_t, sMut_r, fApp_r, Option.bind_some, Option.map_some, List.length_cons, List.length_nil, Nat.zero_add, Nat.reduceAdd, Nat.reduceLT, Nat.reduceLeDiff, List.set_cons_zero, List.set_cons_succ, if_true, Bool.false_eq_true, if_false, Bool.not_true, Bool.not_false, decide_true, decide_false, reduceCtorEq, tItems])
  rcases blankGo (.bor (tS l)) l h .un with ⟨s, e, h2⟩ | ⟨e, h2⟩
  · rw [seq_nx (hf.trans e), h2]; simp only [eK_r, eV_0, eV_s, eB_0v, eB_0b, eB_0p, eB_0o, eB_s, eP_0v, eP_0b, eP_s, eS_0, eS_s, getS_0, getS_s, aNil_r, aCons_r, eOp_r, eUn_r, eCall_r, eBm_r, eTup_r, eLst_r, eIf_r, eAnd_r, eOr_r, eNot_r, eIs_r, eChain_r, eSl_r, oNo_r, oSo_r, asI_r, bT_r, bV_r, bYes_r, asB_r, truth_b, truth_l, truth_t, truth_n, truth_i, bAnd_r, bOr_r, bNot_r, oAdd_i, oSub_i, oNeg_i, oLt_i, oLe_i, oGt_i, oGe_i, cInt_i, cInt_b, cLen_l, cLen_t, cList_l, cList_t, cMax2_i, cMin2_i, cAbs_i, isT_int_i, isT_bool_i, isT_bool_b, isT_int_b, isT_tuple_t, isT_list_l, oEq_i, oNe_i, oEq_b, oNe_b, oIsN_n, oNotN_n, oIsN_i, oNotN_i, oIsB_b, oNotB_b, sSeqn_r, sNext_r, sBrk_r, sCnt_r, sRetN_r, sExpr_r, sRet_r, sRetOwn_r, sIf_r, sSet_r, sOwn_r, sAsg_r, gV_r, gT_r, gsNil_r, gsCons_r, sFz_r, sAug_r, addI_r, subI_r, sSeq_r, sArgs_r, itemsOf_l, itemsOf_t, sMut_r, fApp_r, Option.bind_some, Option.map_some, List.length_cons, List.length_nil, Nat.zero_add, Nat.reduceAdd, Nat.reduceLT, Nat.reduceLeDiff, List.set_cons_zero, List.set_cons_succ, if_true, Bool.false_eq_true, if_false, Bool.not_true, Bool.not_false, decide_true, decide_false, reduceCtorEq]
  · rw [seq_rt (hf.trans e), h2]
theorem cut_end (T : List Nat) (a : Nat) (h1 : a ≤ T.length) : cutG T (some (a : Nat)) none = T.drop a := by
  unfold cutG
  rw [HT.sIx_nat, show min a T.length = a by omega]
  show (T.drop a).take (T.length - a) = _
  rw [← List.length_drop, List.take_length]
theorem tw_pre : ∀ (l : List Nat) (k : Nat), k ≤ l.length → (∀ x, x < k → l.getD x 0 ≠ 10) → (k = l.length ∨ l.getD k 0 = 10) → tw l = l.take k
  | [], k, h, _, _ => by
    have : k = 0 := by simpa using h
    subst this; rfl
  | c :: r, 0, _, _, h => by
    rcases h with h | h
    · simp at h
    · have : c = 10 := h
      subst this; rfl
  | c :: r, k + 1, h, h1, h2 => by
    have hc : c ≠ 10 := h1 0 (by omega)
    have : tw (c :: r) = c :: tw r := by
      unfold tw
      rw [List.takeWhile_cons, if_pos (by simpa using hc)]
    rw [this, List.take_succ_cons, tw_pre r k (by simpa using h) (fun x hx => h1 (x + 1) (by omega)) (by
      rcases h2 with h2 | h2
      · left; simpa using h2
      · right; exact h2)]
theorem getD_drop (T : List Nat) (a x : Nat) : (T.drop a).getD x 0 = T.getD (a + x) 0 := by
  rw [List.getD_eq_getElem?_getD, List.getD_eq_getElem?_getD, List.getElem?_drop]
theorem rest_to (T : List Nat) (a e : Nat) (h1 : a ≤ e) (h2 : e ≤ T.length) (h3 : e = T.length ∨ T.getD e 0 = 10) (h4 : ∀ x, a ≤ x → x < e → T.getD x 0 ≠ 10) : restV T a = (T.drop a).take (e - a) := by
  unfold restV
  refine tw_pre _ _ (by rw [List.length_drop]; omega) (fun x hx => ?_) ?_
  · rw [getD_drop]; exact h4 _ (by omega) (by omega)
  · rcases h3 with h3 | h3
    · left; rw [List.length_drop]; omega
    · right; rw [getD_drop, show a + (e - a) = e by omega]; exact h3
theorem fromIx (n a : Nat) (h : a ≤ n) : PySem.fromIndex n (a : Nat) = a := by
  unfold PySem.fromIndex
  rw [if_neg (by omega), Int.max_eq_right (by omega), Int.toNat_natCast]
theorem find_ex (T : List Nat) (a : Nat) (h : a ≤ T.length) : ∃ e : Nat, a ≤ e ∧ e ≤ T.length ∧ (e = T.length ∨ T.getD e 0 = 10) ∧ (∀ x, a ≤ x → x < e → T.getD x 0 ≠ 10) ∧ oFind3 (tS T) [tS [10], .int (a : Nat)] = some (.int (if e = T.length then -1 else (e : Int))) := by
  have hs := PySem.StrLaws.find3_spec (⟨T.toArray⟩ : Str) 10 (a : Nat)
  have hl : (⟨T.toArray⟩ : Str).length = T.length := tLen1 T
  have hg : ∀ v, (⟨T.toArray⟩ : Str).cps.getD v 0 = T.getD v 0 := fun v => by simp [List.getD_eq_getElem?_getD]
  rw [hl, fromIx _ _ h] at hs
  have ho : oFind3 (tS T) [tS [10], .int (a : Nat)] = some (.int (PySem.Txt.find3 (⟨T.toArray⟩ : Str) ⟨#[10]⟩ (a : Nat))) := rfl
  rcases hs with ⟨h0, h1⟩ | ⟨k, h0, h1, h2, h3, h4⟩
  · refine ⟨T.length, h, Nat.le_refl _, .inl rfl, fun x h5 h6 => by rw [← hg]; exact h1 x h5 h6, ?_⟩
    rw [ho, h0, if_pos rfl]
  · refine ⟨k, h1, by omega, .inr (by rw [← hg]; exact h3), fun x h5 h6 => by rw [← hg]; exact h4 x h5 h6, ?_⟩
    rw [ho, h0, if_neg (by omega)]
theorem rest_eq (T : List Nat) (lT : T.length ≤ 1000000) (a : Nat) (h : a ≤ T.length) : F__law_rest [tS T, .int (a : Nat)] = some (tS (restV T a)) := by
  obtain ⟨e, h1, h2, h3, h4, h5⟩ := find_ex T a h
  have hr := rest_to T a e h1 h2 h3 h4
  refine box_rt rfl ?_
  show B__law_rest [.bor (tS T), .val (.int (a : Nat)), .un] = _
  unfold B__law_rest
  rw [lit_nl]
  by_cases c : e = T.length
  · rw [if_pos c] at h5
    have s1 := tSl T (some (a : Nat)) none (by omega)
    rw [cut_end T a h] at s1
    have : (T.drop a).take (e - a) = T.drop a := by rw [c, ← List.length_drop, List.take_length]
    rw [this] at hr
    rw [hr]
    simp only [eK_r, eV_0, eV_s, eB_0v, eB_0b, eB_0p, eB_0o, eB_s, eP_0v, eP_0b, eP_s, eS_0, eS_s, getS_0, getS_s, aNil_r, aCons_r, eOp_r, eUn_r, eCall_r, eBm_r, eTup_r, eLst_r, eIf_r, eAnd_r, eOr_r, eNot_r, eIs_r, eChain_r, eSl_r, oNo_r, oSo_r, asI_r, bT_r, bV_r, bYes_r, asB_r, truth_b, truth_l, truth_t, truth_n, truth_i, bAnd_r, bOr_r, bNot_r, oAdd_i, oSub_i, oNeg_i, oLt_i, oLe_i, oGt_i, oGe_i, cInt_i, cInt_b, cLen_l, cLen_t, cList_l, cList_t, cMax2_i, cMin2_i, cAbs_i, isT_int_i, isT_bool_i, isT_bool_b, isT_int_b, isT_tuple_t, isT_list_l, oEq_i, oNe_i, oEq_b, oNe_b, oIsN_n, oNotN_n, oIsN_i, oNotN_i, oIsB_b, oNotB_b, sSeqn_r, sNext_r, sBrk_r, sCnt_r, sRetN_r, sExpr_r, sRet_r, sRetOwn_r, sIf_r, sSet_r, sOwn_r, sAsg_r, gV_r, gT_r, gsNil_r, gsCons_r, sFz_r, sAug_r, addI_r, subI_r, sSeq_r, sArgs_r, itemsOf_l, itemsOf_t, sMut_r, fApp_r, Option.bind_some, Option.map_some, List.length_cons, List.length_nil, Nat.zero_add, Nat.reduceAdd, Nat.reduceLT, Nat.reduceLeDiff, List.set_cons_zero, List.set_cons_succ, if_true, Bool.false_eq_true, if_false, Bool.not_true, Bool.not_false, decide_true, decide_false, reduceCtorEq, h5, s1, show ((-1 : Int) < 0) = True by simp]
  · rw [if_neg c] at h5
    have s1 := tSl T (some (a : Nat)) (some (e : Nat)) (by omega)
    rw [cut_mid T a e h1 h2, ← hr] at s1
    have : ((e : Int) < 0) = False := by simp
    simp only [eK_r, eV_0, eV_s, eB_0v, eB_0b, eB_0p, eB_0o, eB_s, eP_0v, eP_0b, eP_s, eS_0, eS_s, getS_0, getS_s, aNil_r, aCons_r, eOp_r, eUn_r, eCall_r, eBm_r, eTup_r, eLst_r, eIf_r, eAnd_r, eOr_r, eNot_r, eIs_r, eChain_r, eSl_r, oNo_r, oSo_r, asI_r, bT_r, bV_r, bYes_r, asB_r, truth_b, truth_l, truth_t, truth_n, truth_i, bAnd_r, bOr_r, bNot_r, oAdd_i, oSub_i, oNeg_i, oLt_i, oLe_i, oGt_i, oGe_i, cInt_i, cInt_b, cLen_l, cLen_t, cList_l, cList_t, cMax2_i, cMin2_i, cAbs_i, isT_int_i, isT_bool_i, isT_bool_b, isT_int_b, isT_tuple_t, isT_list_l, oEq_i, oNe_i, oEq_b, oNe_b, oIsN_n, oNotN_n, oIsN_i, oNotN_i, oIsB_b, oNotB_b, sSeqn_r, sNext_r, sBrk_r, sCnt_r, sRetN_r, sExpr_r, sRet_r, sRetOwn_r, sIf_r, sSet_r, sOwn_r, sAsg_r, gV_r, gT_r, gsNil_r, gsCons_r, sFz_r, sAug_r, addI_r, subI_r, sSeq_r, sArgs_r, itemsOf_l, itemsOf_t, sMut_r, fApp_r, Option.bind_some, Option.map_some, List.length_cons, List.length_nil, Nat.zero_add, Nat.reduceAdd, Nat.reduceLT, Nat.reduceLeDiff, List.set_cons_zero, List.set_cons_succ, if_true, Bool.false_eq_true, if_false, Bool.not_true, Bool.not_false, decide_true, decide_false, reduceCtorEq, h5, s1, this]
theorem Asc.tw {l : List Nat} (h : Asc l) : Asc (tw l) := fun c hc => h c ((List.takeWhile_sublist _).subset hc)
theorem Asc.drop {l : List Nat} (h : Asc l) (n : Nat) : Asc (l.drop n) := fun c hc => h c (List.mem_of_mem_drop hc)
theorem Asc.rest {T : List Nat} (h : Asc T) (a : Nat) : Asc (restV T a) := (h.drop a).tw
theorem blk_iff (T : List Nat) (a b : Nat) (h1 : a ≤ b) (h2 : b ≤ T.length) : blk ((T.drop a).take (b - a)) = true ↔ ∀ x, a ≤ x → x < b → ¬ ltr T x := by
  unfold blk
  rw [List.all_eq_true]
  constructor
  · intro h x h3 h4 z
    have : T.getD x 0 ∈ (T.drop a).take (b - a) := by
      rw [List.mem_iff_getElem]
      refine ⟨x - a, by rw [List.length_take, List.length_drop]; omega, ?_⟩
      rw [List.getElem_take, List.getElem_drop, List.getD_eq_getElem?_getD, List.getElem?_eq_getElem (by omega)]
      simp only [show a + (x - a) = x by omega]; rfl
    have := h _ this
    simp only [Bool.or_eq_true, beq_iff_eq] at this
    rcases this with this | this
    · exact z.1 this
    · exact z.2 this
  · intro h c hc
    obtain ⟨i, hi, rfl⟩ := List.mem_iff_getElem.mp hc
    rw [List.length_take, List.length_drop] at hi
    have := h (a + i) (by omega) (by omega)
    rw [List.getElem_take, List.getElem_drop]
    have e : T.getD (a + i) 0 = T[a + i]'(by omega) := by rw [List.getD_eq_getElem?_getD, List.getElem?_eq_getElem (by omega)]; rfl
    unfold ltr at this
    rw [e] at this
    simp only [Bool.or_eq_true, beq_iff_eq]
    by_cases z : T[a + i]'(by omega) = 32
    · exact .inl z
    · by_cases y : T[a + i]'(by omega) = 10
      · exact .inr y
      · exact absurd ⟨z, y⟩ this
/-! ### does a line end its paragraph -/
theorem tw_cons (c : Nat) (r : List Nat) (h : c ≠ 10) : tw (c :: r) = c :: tw r := by
  unfold tw
  rw [List.takeWhile_cons, if_pos (by simpa using h)]
theorem endsGo (x y : Slot) : ∀ (l : List Nat), Asc l → ∀ s, (∃ s', forGo (gV 2) L_ends_paragraph_1 (l.map fun c => tS [c]) [x, y, s] = some (.nx [x, y, s']) ∧ blk (tw l) = true) ∨ forGo (gV 2) L_ends_paragraph_1 (l.map fun c => tS [c]) [x, y, s] = some (.rt (.bool (blk (tw l))))
  | [], _, s => .inl ⟨s, rfl, rfl⟩
  | c :: r, h, s => by
    have hc := h c List.mem_cons_self
    have n1 := neC (d := 32) hc (by decide)
    have n2 := eqC (d := 10) hc (by decide)
    have hg : gV 2 (tS [c]) [x, y, s] = some [x, y, .val (tS [c])] := rfl
    have ih := endsGo x y r (fun y hy => h y (List.mem_cons_of_mem _ hy)) (.val (tS [c]))
    rw [List.map_cons, forGo, hg, Option.bind_some]
    by_cases h1 : c = 10
    · subst h1
      have st : L_ends_paragraph_1 [x, y, .val (tS [10])] = some (.rt (.bool true)) := by
        unfold L_ends_paragraph_1
        rw [lit_sp, lit_nl]
        simp only [eK_r, eV_0, eV_s, eB_0v, eB_0b, eB_0p, eB_0o, eB_s, eP_0v, eP_0b, eP_s, eS_0, eS_s, getS_0, getS_s, aNil_r, aCons_r, eOp_r, eUn_r, eCall_r, eBm_r, eTup_r, eLst_r, eIf_r, eAnd_r, eOr_r, eNot_r, eIs_r, eChain_r, eSl_r, oNo_r, oSo_r, asI_r, bT_r, bV_r, bYes_r, asB_r, truth_b, truth_l, truth_t, truth_n, truth_i, bAnd_r, bOr_r, bNot_r, oAdd_i, oSub_i, oNeg_i, oLt_i, oLe_i, oGt_i, oGe_i, cInt_i, cInt_b, cLen_l, cLen_t, cList_l, cList_t, cMax2_i, cMin2_i, cAbs_i, isT_int_i, isT_bool_i, isT_bool_b, isT_int_b, isT_tuple_t, isT_list_l, oEq_i, oNe_i, oEq_b, oNe_b, oIsN_n, oNotN_n, oIsN_i, oNotN_i, oIsB_b, oNotB_b, sSeqn_r, sNext_r, sBrk_r, sCnt_r, sRetN_r, sExpr_r, sRet_r, sRetOwn_r, sIf_r, sSet_r, sOwn_r, sAsg_r, gV_r, gT_r, gsNil_r, gsCons_r, sFz_r, sAug_r, addI_r, subI_r, sSeq_r, sArgs_r, itemsOf_l, itemsOf_t, sMut_r, fApp_r, Option.bind_some, Option.map_some, List.length_cons, List.length_nil, Nat.zero_add, Nat.reduceAdd, Nat.reduceLT, Nat.reduceLeDiff, List.set_cons_zero, List.set_cons_succ, if_true, Bool.false_eq_true, if_false, Bool.not_true, Bool.not_false, decide_true, decide_false, reduceCtorEq, n2]
      rw [st]
      exact .inr rfl
    · rw [tw_cons c r h1]
      have hb : blk (c :: tw r) = ((c == 32 || c == 10) && blk (tw r)) := rfl
      rw [hb]
      by_cases h2 : c = 32
      · subst h2
        have st : L_ends_paragraph_1 [x, y, .val (tS [32])] = some (.nx [x, y, .val (tS [32])]) := by
          unfold L_ends_paragraph_1
          rw [lit_sp, lit_nl]
          simp only [eK_r, eV_0, eV_s, eB_0v, eB_0b, eB_0p, eB_0o, eB_s, eP_0v, eP_0b, eP_s, eS_0, eS_s, getS_0, getS_s, aNil_r, aCons_r, eOp_r, eUn_r, eCall_r, eBm_r, eTup_r, eLst_r, eIf_r, eAnd_r, eOr_r, eNot_r, eIs_r, eChain_r, eSl_r, oNo_r, oSo_r, asI_r, bT_r, bV_r, bYes_r, asB_r, truth_b, truth_l, truth_t, truth_n, truth_i, bAnd_r, bOr_r, bNot_r, oAdd_i, oSub_i, oNeg_i, oLt_i, oLe_i, oGt_i, oGe_i, cInt_i, cInt_b, cLen_l, cLen_t, cList_l, cList_t, cMax2_i, cMin2_i, cAbs_i, isT_int_i, isT_bool_i, isT_bool_b, isT_int_b, isT_tuple_t, isT_list_l, oEq_i, oNe_i, oEq_b, oNe_b, oIsN_n, oNotN_n, oIsN_i, oNotN_i, oIsB_b, oNotB_b, sSeqn_r, sNext_r, sBrk_r, sCnt_r, sRetN_r, sExpr_r, sRet_r, sRetOwn_r, sIf_r, sSet_r, sOwn_r, sAsg_r, gV_r, gT_r, gsNil_r, gsCons_r, sFz_r, sAug_r, addI_r, subI_r, sSeq_r, sArgs_r, itemsOf_l, itemsOf_t, sMut_r, fApp_r, Option.bind_some, Option.map_some, List.length_cons, List.length_nil, Nat.zero_add, Nat.reduceAdd, Nat.reduceLT, Nat.reduceLeDiff, List.set_cons_zero, List.set_cons_succ, if_true, Bool.false_eq_true, if_false, Bool.not_true, Bool.not_false, decide_true, decide_false, reduceCtorEq, n1, n2, show ((32 : Nat) = 10) = False by simp]
        rw [st]
        exact ih
      · have st : L_ends_paragraph_1 [x, y, .val (tS [c])] = some (.rt (.bool false)) := by
          unfold L_ends_paragraph_1
          rw [lit_sp, lit_nl]
          simp only [eK_r, eV_0, eV_s, eB_0v, eB_0b, eB_0p, eB_0o, eB_s, eP_0v, eP_0b, eP_s, eS_0, eS_s, getS_0, getS_s, aNil_r, aCons_r, eOp_r, eUn_r, eCall_r, eBm_r, eTup_r, eLst_r, eIf_r, eAnd_r, eOr_r, eNot_r, eIs_r, eChain_r, eSl_r, oNo_r, oSo_r, asI_r, bT_r, bV_r, bYes_r, asB_r, truth_b, truth_l, truth_t, truth_n, truth_i, bAnd_r, bOr_r, bNot_r, oAdd_i, oSub_i, oNeg_i, oLt_i, oLe_i, oGt_i, oGe_i, cInt_i, cInt_b, cLen_l, cLen_t, cList_l, cList_t, cMax2_i, cMin2_i, cAbs_i, isT_int_i, isT_bool_i, isT_bool_b, isT_int_b, isT_tuple_t, isT_list_l, oEq_i, oNe_i, oEq_b, oNe_b, oIsN_n, oNotN_n, oIsN_i, oNotN_i, oIsB_b, oNotB_b, sSeqn_r, sNext_r, sBrk_r, sCnt_r, sRetN_r, sExpr_r, sRet_r, sRetOwn_r, sIf_r, sSet_r, sOwn_r, sAsg_r, gV_r, gT_r, gsNil_r, gsCons_r, sFz_r, sAug_r, addI_r, subI_r, sSeq_r, sArgs_r, itemsOf_l, itemsOf_t, sMut_r, fApp_r, Option.bind_some, Option.map_some, List.length_cons, List.length_nil, Nat.zero_add, Nat.reduceAdd, Nat.reduceLT, Nat.reduceLeDiff, List.set_cons_zero, List.set_cons_succ, if_true, Bool.false_eq_true, if_false, Bool.not_true, Bool.not_false, decide_true, decide_false, reduceCtorEq, n1, n2, h1, h2]
        rw [st]
        right
        simp [h1, h2]
theorem ends_eq (T : List Nat) (aT : Asc T) (lT : T.length ≤ 1000000) (p : Nat × Nat) (h : p.2 ≤ T.length) : F_ends_paragraph [tS T, encP p] = some (.bool (blk (restV T p.2))) := by
  refine box_rt rfl ?_
  show B_ends_paragraph [.bor (tS T), .bor (encP p), .un] = _
  unfold B_ends_paragraph
  have s1 := tSl T (some (p.2 : Nat)) none (by omega)
  rw [cut_end T p.2 h] at s1
  have a1 : oIx (encP p) (.int 1) = some (.int (p.2 : Nat)) := rfl
  have hf : sFor (sSeq (eSl oSl (eB 0) (oSo (eOp oIx (eB 1) (eK (.int 1)))) oNo)) (gV 2) L_ends_paragraph_1 [.bor (tS T), .bor (encP p), .un] = forGo (gV 2) L_ends_paragraph_1 ((T.drop p.2).map fun c => tS [c]) [.bor (tS T), .bor (encP p), .un] := sFor_eq (by simp only [eK_r, eV_0, eV_s, eB_0v, eB_0b, eB_0p, eB_0o, eB_s, eP_0v, eP_0b, eP_s, eS_0, eS_s, getS_0, getS_s, aNil_r, aCons_r, eOp_r, eUn_r, eCall_r, eBm_r, eTup_r, eLst_r, eIf_r, eAnd_r, eOr_r, eNot_r, eIs_r, eChain_r, eSl_r, oNo_r, oSo_r, asI_r, bT_r, bV_r, bYes_r, asB_r, truth_b, truth_l, truth_t, truth_n, truth_i, bAnd_r, bOr_r, bNot_r, oAdd_i, oSub_i, oNeg_i, oLt_i, oLe_i, oGt_i, oGe_i, cInt_i, cInt_b, cLen_l, cLen_t, cList_l, cList_t, cMax2_i, cMin2_i, cAbs_i, isT_int_i, isT_bool_i, isT_bool_b, isT_int_b, isT_tuple_t, isT_list_l, oEq_i, oNe_i, oEq_b, oNe_b, oIsN_n, oNotN_n, oIsN_i, oNotN_i, oIsB_b, oNotB_b, sSeqn_r, sNext_r, sBrk_r, sCnt_r, sRetN_r, sExpr_r, sRet_r, sRetOwn_r, sIf_r, sSet_r, sOwn_r, sAsg_r, gV_r, gT_r, gsNil_r, gsCons_r, sFz_r, sAug_r, addI_r, subI_r, sSeq_r, sArgs_r, itemsOf_l, itemsOf_t, sMut_r, fApp_r, Option.bind_some, Option.map_some, List.length_cons, List.length_nil, Nat.zero_add, Nat.reduceAdd, Nat.reduceLT, Nat.reduceLeDiff, List.set_cons_zero, List.set_cons_succ, if_true, Bool.false_eq_true, if_false, Bool.not_true, Bool.not_false, decide_true, decide_false, reduceCtorEq, a1, s1, tItems])
  unfold restV
  rcases endsGo (.bor (tS T)) (.bor (encP p)) (T.drop p.2) (aT.drop _) .un with ⟨s, e, h2⟩ | e
  · rw [seq_nx (hf.trans e), h2]; simp only [eK_r, eV_0, eV_s, eB_0v, eB_0b, eB_0p, eB_0o, eB_s, eP_0v, eP_0b, eP_s, eS_0, eS_s, getS_0, getS_s, aNil_r, aCons_r, eOp_r, eUn_r, eCall_r, eBm_r, eTup_r, eLst_r, eIf_r, eAnd_r, eOr_r, eNot_r, eIs_r, eChain_r, eSl_r, oNo_r, oSo_r, asI_r, bT_r, bV_r, bYes_r, asB_r, truth_b, truth_l, truth_t, truth_n, truth_i, bAnd_r, bOr_r, bNot_r, oAdd_i, oSub_i, oNeg_i, oLt_i, oLe_i, oGt_i, oGe_i, cInt_i, cInt_b, cLen_l, cLen_t, cList_l, cList_t, cMax2_i, cMin2_i, cAbs_i, isT_int_i, isT_bool_i, isT_bool_b, isT_int_b, isT_tuple_t, isT_list_l, oEq_i, oNe_i, oEq_b, oNe_b, oIsN_n, oNotN_n, oIsN_i, oNotN_i, oIsB_b, oNotB_b, sSeqn_r, sNext_r, sBrk_r, sCnt_r, sRetN_r, sExpr_r, sRet_r, sRetOwn_r, sIf_r, sSet_r, sOwn_r, sAsg_r, gV_r, gT_r, gsNil_r, gsCons_r, sFz_r, sAug_r, addI_r, subI_r, sSeq_r, sArgs_r, itemsOf_l, itemsOf_t, sMut_r, fApp_r, Option.bind_some, Option.map_some, List.length_cons, List.length_nil, Nat.zero_add, Nat.reduceAdd, Nat.reduceLT, Nat.reduceLeDiff, List.set_cons_zero, List.set_cons_succ, if_true, Bool.false_eq_true, if_false, Bool.not_true, Bool.not_false, decide_true, decide_false, reduceCtorEq]
  · rw [seq_rt (hf.trans e)]
/-! ### places of a line -/
def LEFTs : List Nat := [108, 101, 102, 116]
def RIGHTs : List Nat := [114, 105, 103, 104, 116]
def CENTERs : List Nat := [99, 101, 110, 116, 101, 114]
def FULLs : List Nat := [102, 117, 108, 108]
theorem lit_left : PyData.str (Str.ofString "left") = tS LEFTs := lit _ _ (by decide +kernel)
theorem lit_right : PyData.str (Str.ofString "right") = tS RIGHTs := lit _ _ (by decide +kernel)
theorem lit_center : PyData.str (Str.ofString "center") = tS CENTERs := lit _ _ (by decide +kernel)
theorem lit_full : PyData.str (Str.ofString "full") = tS FULLs := lit _ _ (by decide +kernel)
theorem asc_left : Asc LEFTs := by unfold Asc; decide +kernel
theorem asc_right : Asc RIGHTs := by unfold Asc; decide +kernel
theorem asc_center : Asc CENTERs := by unfold Asc; decide +kernel
theorem asc_full : Asc FULLs := by unfold Asc; decide +kernel
theorem offV_last (l : List Nat) (s : Int) : oIx (.list ((offV l s).map .int)) (.int (-1)) = some (.int (sumU l * s)) := by
  have := offP_last l s l.length
  rw [List.take_length] at this
  exact this
def restP (P : List Nat) (s w : Int) : Int := max 0 (w - sumU P * s)
def mvV (al P : List Nat) (s w : Int) : Int := if al = RIGHTs then restP P s w else if al = CENTERs then restP P s w / 2 else 0
theorem eq_lists (a b : List Nat) (ha : Asc a) (hb : Asc b) : oEq (tS a) (tS b) = some (.bool (decide (a = b))) := tEq ha hb
/-- the plain end: all places are moved alike -/
theorem place_end (d0 d1 d2 d3 d5 d7 : Slot) (al P : List Nat) (aal : Asc al) (lP : P.length ≤ 4000) (s w : Int) (hd7 : d7 = .val (.int (restP P s w))) (y9 : Slot) :
    (sSeqn (sSet 8 (eK (.int 0)))
  (sSeqn (sIf (bT (eOp oEq (eB 4) (eK (tS RIGHTs))))
    (sSet 8 (eV 7))
    (sIf (bT (eOp oEq (eB 4) (eK (tS CENTERs))))
      (sSet 8 (eOp oFdiv (eB 7) (eK (.int 2))))
      sNext))
  (sRet (eLc (sSeq (eB 6)) (gV 9) bYes (eOp oAdd (eB 9) (eB 8)) [9])))) [d0, d1, d2, d3, .bor (tS al), d5, .own (.list ((offV P s).map .int)), d7, .un, y9] = some (.rt (.list (((offV P s).map (· + mvV al P s w)).map .int))) := by
  subst hd7
  have e1 := eq_lists al RIGHTs aal asc_right
  have e2 := eq_lists al CENTERs aal asc_center
  rw [seq_nx (ρ' := [d0, d1, d2, d3, .bor (tS al), d5, .own (.list ((offV P s).map .int)), .val (.int (restP P s w)), .val (.int 0), y9]) (by simp only [eK_r, eV_0, eV_s, eB_0v, eB_0b, eB_0p, eB_0o, eB_s, eP_0v, eP_0b, eP_s, eS_0, eS_s, getS_0, getS_s, aNil_r, aCons_r, eOp_r, eUn_r, eCall_r, eBm_r, eTup_r, eLst_r, eIf_r, eAnd_r, eOr_r, eNot_r, eIs_r, eChain_r, eSl_r, oNo_r, oSo_r, asI_r, bT_r, bV_r, bYes_r, asB_r, truth_b, truth_l, truth_t, truth_n, truth_i, bAnd_r, bOr_r, bNot_r, oAdd_i, oSub_i, oNeg_i, oLt_i, oLe_i, oGt_i, oGe_i, cInt_i, cInt_b, cLen_l, cLen_t, cList_l, cList_t, cMax2_i, cMin2_i, cAbs_i, isT_int_i, isT_bool_i, isT_bool_b, isT_int_b, isT_tuple_t, isT_list_l, oEq_i, oNe_i, oEq_b, oNe_b, oIsN_n, oNotN_n, oIsN_i, oNotN_i, oIsB_b, oNotB_b, sSeqn_r, sNext_r, sBrk_r, sCnt_r, sRetN_r, sExpr_r, sRet_r, sRetOwn_r, sIf_r, sSet_r, sOwn_r, sAsg_r, gV_r, gT_r, gsNil_r, gsCons_r, sFz_r, sAug_r, addI_r, subI_r, sSeq_r, sArgs_r, itemsOf_l, itemsOf_t, sMut_r, fApp_r, Option.bind_some, Option.map_some, List.length_cons, List.length_nil, Nat.zero_add, Nat.reduceAdd, Nat.reduceLT, Nat.reduceLeDiff, List.set_cons_zero, List.set_cons_succ, if_true, Bool.false_eq_true, if_false, Bool.not_true, Bool.not_false, decide_true, decide_false, reduceCtorEq])]
  rw [seq_nx (ρ' := [d0, d1, d2, d3, .bor (tS al), d5, .own (.list ((offV P s).map .int)), .val (.int (restP P s w)), .val (.int (mvV al P s w)), y9]) (by
    unfold mvV
    by_cases c1 : al = RIGHTs
    · subst c1
      rw [decide_eq_true rfl] at e1
      simp only [eK_r, eV_0, eV_s, eB_0v, eB_0b, eB_0p, eB_0o, eB_s, eP_0v, eP_0b, eP_s, eS_0, eS_s, getS_0, getS_s, aNil_r, aCons_r, eOp_r, eUn_r, eCall_r, eBm_r, eTup_r, eLst_r, eIf_r, eAnd_r, eOr_r, eNot_r, eIs_r, eChain_r, eSl_r, oNo_r, oSo_r, asI_r, bT_r, bV_r, bYes_r, asB_r, truth_b, truth_l, truth_t, truth_n, truth_i, bAnd_r, bOr_r, bNot_r, oAdd_i, oSub_i, oNeg_i, oLt_i, oLe_i, oGt_i, oGe_i, cInt_i, cInt_b, cLen_l, cLen_t, cList_l, cList_t, cMax2_i, cMin2_i, cAbs_i, isT_int_i, isT_bool_i, isT_bool_b, isT_int_b, isT_tuple_t, isT_list_l, oEq_i, oNe_i, oEq_b, oNe_b, oIsN_n, oNotN_n, oIsN_i, oNotN_i, oIsB_b, oNotB_b, sSeqn_r, sNext_r, sBrk_r, sCnt_r, sRetN_r, sExpr_r, sRet_r, sRetOwn_r, sIf_r, sSet_r, sOwn_r, sAsg_r, gV_r, gT_r, gsNil_r, gsCons_r, sFz_r, sAug_r, addI_r, subI_r, sSeq_r, sArgs_r, itemsOf_l, itemsOf_t, sMut_r, fApp_r, Option.bind_some, Option.map_some, List.length_cons, List.length_nil, Nat.zero_add, Nat.reduceAdd, Nat.reduceLT, Nat.reduceLeDiff, List.set_cons_zero, List.set_cons_succ, if_true, Bool.false_eq_true, if_false, Bool.not_true, Bool.not_false, decide_true, decide_false, reduceCtorEq, e1]
    · by_cases c2 : al = CENTERs
      · have c3 : decide (CENTERs = RIGHTs) = false := by decide +kernel
        have c4 : ¬ CENTERs = RIGHTs := of_decide_eq_false c3
        have hf : oFdiv (.int (restP P s w)) (.int 2) = some (.int (restP P s w / 2)) := oFdiv_i (by omega) (by omega)
        subst c2
        rw [decide_eq_true rfl] at e2
        simp only [eK_r, eV_0, eV_s, eB_0v, eB_0b, eB_0p, eB_0o, eB_s, eP_0v, eP_0b, eP_s, eS_0, eS_s, getS_0, getS_s, aNil_r, aCons_r, eOp_r, eUn_r, eCall_r, eBm_r, eTup_r, eLst_r, eIf_r, eAnd_r, eOr_r, eNot_r, eIs_r, eChain_r, eSl_r, oNo_r, oSo_r, asI_r, bT_r, bV_r, bYes_r, asB_r, truth_b, truth_l, truth_t, truth_n, truth_i, bAnd_r, bOr_r, bNot_r, oAdd_i, oSub_i, oNeg_i, oLt_i, oLe_i, oGt_i, oGe_i, cInt_i, cInt_b, cLen_l, cLen_t, cList_l, cList_t, cMax2_i, cMin2_i, cAbs_i, isT_int_i, isT_bool_i, isT_bool_b, isT_int_b, isT_tuple_t, isT_list_l, oEq_i, oNe_i, oEq_b, oNe_b, oIsN_n, oNotN_n, oIsN_i, oNotN_i, oIsB_b, oNotB_b, sSeqn_r, sNext_r, sBrk_r, sCnt_r, sRetN_r, sExpr_r, sRet_r, sRetOwn_r, sIf_r, sSet_r, sOwn_r, sAsg_r, gV_r, gT_r, gsNil_r, gsCons_r, sFz_r, sAug_r, addI_r, subI_r, sSeq_r, sArgs_r, itemsOf_l, itemsOf_t, sMut_r, fApp_r, Option.bind_some, Option.map_some, List.length_cons, List.length_nil, Nat.zero_add, Nat.reduceAdd, Nat.reduceLT, Nat.reduceLeDiff, List.set_cons_zero, List.set_cons_succ, if_true, Bool.false_eq_true, if_false, Bool.not_true, Bool.not_false, decide_true, decide_false, reduceCtorEq, e1, e2, c4, hf]
      · simp only [eK_r, eV_0, eV_s, eB_0v, eB_0b, eB_0p, eB_0o, eB_s, eP_0v, eP_0b, eP_s, eS_0, eS_s, getS_0, getS_s, aNil_r, aCons_r, eOp_r, eUn_r, eCall_r, eBm_r, eTup_r, eLst_r, eIf_r, eAnd_r, eOr_r, eNot_r, eIs_r, eChain_r, eSl_r, oNo_r, oSo_r, asI_r, bT_r, bV_r, bYes_r, asB_r, truth_b, truth_l, truth_t, truth_n, truth_i, bAnd_r, bOr_r, bNot_r, oAdd_i, oSub_i, oNeg_i, oLt_i, oLe_i, oGt_i, oGe_i, cInt_i, cInt_b, cLen_l, cLen_t, cList_l, cList_t, cMax2_i, cMin2_i, cAbs_i, isT_int_i, isT_bool_i, isT_bool_b, isT_int_b, isT_tuple_t, isT_list_l, oEq_i, oNe_i, oEq_b, oNe_b, oIsN_n, oNotN_n, oIsN_i, oNotN_i, oIsB_b, oNotB_b, sSeqn_r, sNext_r, sBrk_r, sCnt_r, sRetN_r, sExpr_r, sRet_r, sRetOwn_r, sIf_r, sSet_r, sOwn_r, sAsg_r, gV_r, gT_r, gsNil_r, gsCons_r, sFz_r, sAug_r, addI_r, subI_r, sSeq_r, sArgs_r, itemsOf_l, itemsOf_t, sMut_r, fApp_r, Option.bind_some, Option.map_some, List.length_cons, List.length_nil, Nat.zero_add, Nat.reduceAdd, Nat.reduceLT, Nat.reduceLeDiff, List.set_cons_zero, List.set_cons_succ, if_true, Bool.false_eq_true, if_false, Bool.not_true, Bool.not_false, decide_true, decide_false, reduceCtorEq, e1, e2, c1, c2])]
  generalize mvV al P s w = mv
  have hl := lcGo_filter (ρ := [d0, d1, d2, d3, .bor (tS al), d5, .own (.list ((offV P s).map .int)), .val (.int (restP P s w)), .val (.int mv), .un]) (g := gV 9) (t := bYes) (e := eOp oAdd (eB 9) (eB 8)) (fun i : Int => PyData.int i) (fun i : Int => PyData.int (i + mv)) (fun _ => true) (offV P s) fun i hi => ⟨_, rfl, rfl, fun _ => rfl⟩
  rw [List.filter_eq_self.mpr fun _ _ => rfl] at hl
  have hm : (offV P s).map (fun i : Int => PyData.int (i + mv)) = ((offV P s).map (· + mv)).map .int := by rw [List.map_map]; rfl
  rw [hm] at hl
  rw [sRet_r, eLc_eq (ds := (offV P s).map .int) (ys := ((offV P s).map (· + mv)).map .int) (by simp only [eK_r, eV_0, eV_s, eB_0v, eB_0b, eB_0p, eB_0o, eB_s, eP_0v, eP_0b, eP_s, eS_0, eS_s, getS_0, getS_s, aNil_r, aCons_r, eOp_r, eUn_r, eCall_r, eBm_r, eTup_r, eLst_r, eIf_r, eAnd_r, eOr_r, eNot_r, eIs_r, eChain_r, eSl_r, oNo_r, oSo_r, asI_r, bT_r, bV_r, bYes_r, asB_r, truth_b, truth_l, truth_t, truth_n, truth_i, bAnd_r, bOr_r, bNot_r, oAdd_i, oSub_i, oNeg_i, oLt_i, oLe_i, oGt_i, oGe_i, cInt_i, cInt_b, cLen_l, cLen_t, cList_l, cList_t, cMax2_i, cMin2_i, cAbs_i, isT_int_i, isT_bool_i, isT_bool_b, isT_int_b, isT_tuple_t, isT_list_l, oEq_i, oNe_i, oEq_b, oNe_b, oIsN_n, oNotN_n, oIsN_i, oNotN_i, oIsB_b, oNotB_b, sSeqn_r, sNext_r, sBrk_r, sCnt_r, sRetN_r, sExpr_r, sRet_r, sRetOwn_r, sIf_r, sSet_r, sOwn_r, sAsg_r, gV_r, gT_r, gsNil_r, gsCons_r, sFz_r, sAug_r, addI_r, subI_r, sSeq_r, sArgs_r, itemsOf_l, itemsOf_t, sMut_r, fApp_r, Option.bind_some, Option.map_some, List.length_cons, List.length_nil, Nat.zero_add, Nat.reduceAdd, Nat.reduceLT, Nat.reduceLeDiff, List.set_cons_zero, List.set_cons_succ, if_true, Bool.false_eq_true, if_false, Bool.not_true, Bool.not_false, decide_true, decide_false, reduceCtorEq]) hl (by rw [List.length_map, List.length_map, offV_len]; omega), Option.bind_some]
theorem place_eq (T : List Nat) (aT : Asc T) (lT : T.length ≤ 4000) (p : Nat × Nat) (h1 : p.1 ≤ p.2) (h2 : p.2 ≤ T.length) (s w : Int) (al : List Nat) (aal : Asc al) (hnf : al ≠ FULLs) :
    F_place_line [tS T, encP p, .int s, .int w, tS al] = some (.list (((offV (cutG T (some (p.1 : Nat)) (some (p.2 : Nat))) s).map (· + mvV al (cutG T (some (p.1 : Nat)) (some (p.2 : Nat))) s w)).map .int)) := by
  have a0 : oIx (encP p) (.int 0) = some (.int (p.1 : Nat)) := rfl
  have a1 : oIx (encP p) (.int 1) = some (.int (p.2 : Nat)) := rfl
  have s1 := tSl T (some (p.1 : Nat)) (some (p.2 : Nat)) (by omega)
  have lP : (cutG T (some (p.1 : Nat)) (some (p.2 : Nat))).length ≤ 4000 := by
    have := cutG_len T (i := (p.1 : Int)) (j := (p.2 : Int)) (by omega) (by omega)
    omega
  have aP := aT.cut (some (p.1 : Nat)) (some (p.2 : Nat))
  generalize cutG T (some (p.1 : Nat)) (some (p.2 : Nat)) = P at *
  have ho := offsets_eq P (by omega) aP s
  have hlast := offV_last P s
  have e0 := eq_lists al FULLs aal asc_full
  rw [decide_eq_false hnf] at e0
  refine box_rt rfl ?_
  show B_place_line [.bor (tS T), .bor (encP p), .bor (.int s), .bor (.int w), .bor (tS al), .un, .un, .un, .un, .un] = _
  unfold B_place_line
  rw [lit_full, lit_right, lit_center]
  rw [seq_nx (ρ' := [.bor (tS T), .bor (encP p), .bor (.int s), .bor (.int w), .bor (tS al), .val (tS P), .un, .un, .un, .un]) (by simp only [eK_r, eV_0, eV_s, eB_0v, eB_0b, eB_0p, eB_0o, eB_s, eP_0v, eP_0b, eP_s, eS_0, eS_s, getS_0, getS_s, aNil_r, aCons_r, eOp_r, eUn_r, eCall_r, eBm_r, eTup_r, eLst_r, eIf_r, eAnd_r, eOr_r, eNot_r, eIs_r, eChain_r, eSl_r, oNo_r, oSo_r, asI_r, bT_r, bV_r, bYes_r, asB_r, truth_b, truth_l, truth_t, truth_n, truth_i, bAnd_r, bOr_r, bNot_r, oAdd_i, oSub_i, oNeg_i, oLt_i, oLe_i, oGt_i, oGe_i, cInt_i, cInt_b, cLen_l, cLen_t, cList_l, cList_t, cMax2_i, cMin2_i, cAbs_i, isT_int_i, isT_bool_i, isT_bool_b, isT_int_b, isT_tuple_t, isT_list_l, oEq_i, oNe_i, oEq_b, oNe_b, oIsN_n, oNotN_n, oIsN_i, oNotN_i, oIsB_b, oNotB_b, sSeqn_r, sNext_r, sBrk_r, sCnt_r, sRetN_r, sExpr_r, sRet_r, sRetOwn_r, sIf_r, sSet_r, sOwn_r, sAsg_r, gV_r, gT_r, gsNil_r, gsCons_r, sFz_r, sAug_r, addI_r, subI_r, sSeq_r, sArgs_r, itemsOf_l, itemsOf_t, sMut_r, fApp_r, Option.bind_some, Option.map_some, List.length_cons, List.length_nil, Nat.zero_add, Nat.reduceAdd, Nat.reduceLT, Nat.reduceLeDiff, List.set_cons_zero, List.set_cons_succ, if_true, Bool.false_eq_true, if_false, Bool.not_true, Bool.not_false, decide_true, decide_false, reduceCtorEq, a0, a1, s1])]
  have hm : max 0 (w - sumU P * s) = restP P s w := rfl
  rw [seq_nx (sOwn_eq (d := .list ((offV P s).map .int)) (by simp only [eK_r, eV_0, eV_s, eB_0v, eB_0b, eB_0p, eB_0o, eB_s, eP_0v, eP_0b, eP_s, eS_0, eS_s, getS_0, getS_s, aNil_r, aCons_r, eOp_r, eUn_r, eCall_r, eBm_r, eTup_r, eLst_r, eIf_r, eAnd_r, eOr_r, eNot_r, eIs_r, eChain_r, eSl_r, oNo_r, oSo_r, asI_r, bT_r, bV_r, bYes_r, asB_r, truth_b, truth_l, truth_t, truth_n, truth_i, bAnd_r, bOr_r, bNot_r, oAdd_i, oSub_i, oNeg_i, oLt_i, oLe_i, oGt_i, oGe_i, cInt_i, cInt_b, cLen_l, cLen_t, cList_l, cList_t, cMax2_i, cMin2_i, cAbs_i, isT_int_i, isT_bool_i, isT_bool_b, isT_int_b, isT_tuple_t, isT_list_l, oEq_i, oNe_i, oEq_b, oNe_b, oIsN_n, oNotN_n, oIsN_i, oNotN_i, oIsB_b, oNotB_b, sSeqn_r, sNext_r, sBrk_r, sCnt_r, sRetN_r, sExpr_r, sRet_r, sRetOwn_r, sIf_r, sSet_r, sOwn_r, sAsg_r, gV_r, gT_r, gsNil_r, gsCons_r, sFz_r, sAug_r, addI_r, subI_r, sSeq_r, sArgs_r, itemsOf_l, itemsOf_t, sMut_r, fApp_r, Option.bind_some, Option.map_some, List.length_cons, List.length_nil, Nat.zero_add, Nat.reduceAdd, Nat.reduceLT, Nat.reduceLeDiff, List.set_cons_zero, List.set_cons_succ, if_true, Bool.false_eq_true, if_false, Bool.not_true, Bool.not_false, decide_true, decide_false, reduceCtorEq, ho]) (by simp))]
  show sSeqn _ _ [.bor (tS T), .bor (encP p), .bor (.int s), .bor (.int w), .bor (tS al), .val (tS P), .own (.list ((offV P s).map .int)), .un, .un, .un] = _
  rw [seq_nx (ρ' := [.bor (tS T), .bor (encP p), .bor (.int s), .bor (.int w), .bor (tS al), .val (tS P), .own (.list ((offV P s).map .int)), .val (.int (restP P s w)), .un, .un]) (by simp only [eK_r, eV_0, eV_s, eB_0v, eB_0b, eB_0p, eB_0o, eB_s, eP_0v, eP_0b, eP_s, eS_0, eS_s, getS_0, getS_s, aNil_r, aCons_r, eOp_r, eUn_r, eCall_r, eBm_r, eTup_r, eLst_r, eIf_r, eAnd_r, eOr_r, eNot_r, eIs_r, eChain_r, eSl_r, oNo_r, oSo_r, asI_r, bT_r, bV_r, bYes_r, asB_r, truth_b, truth_l, truth_t, truth_n, truth_i, bAnd_r, bOr_r, bNot_r, oAdd_i, oSub_i, oNeg_i, oLt_i, oLe_i, oGt_i, oGe_i, cInt_i, cInt_b, cLen_l, cLen_t, cList_l, cList_t, cMax2_i, cMin2_i, cAbs_i, isT_int_i, isT_bool_i, isT_bool_b, isT_int_b, isT_tuple_t, isT_list_l, oEq_i, oNe_i, oEq_b, oNe_b, oIsN_n, oNotN_n, oIsN_i, oNotN_i, oIsB_b, oNotB_b, sSeqn_r, sNext_r, sBrk_r, sCnt_r, sRetN_r, sExpr_r, sRet_r, sRetOwn_r, sIf_r, sSet_r, sOwn_r, sAsg_r, gV_r, gT_r, gsNil_r, gsCons_r, sFz_r, sAug_r, addI_r, subI_r, sSeq_r, sArgs_r, itemsOf_l, itemsOf_t, sMut_r, fApp_r, Option.bind_some, Option.map_some, List.length_cons, List.length_nil, Nat.zero_add, Nat.reduceAdd, Nat.reduceLT, Nat.reduceLeDiff, List.set_cons_zero, List.set_cons_succ, if_true, Bool.false_eq_true, if_false, Bool.not_true, Bool.not_false, decide_true, decide_false, reduceCtorEq, hlast, hm])]
  rw [seq_nx (ρ' := [.bor (tS T), .bor (encP p), .bor (.int s), .bor (.int w), .bor (tS al), .val (tS P), .own (.list ((offV P s).map .int)), .val (.int (restP P s w)), .un, .un]) (by simp only [eK_r, eV_0, eV_s, eB_0v, eB_0b, eB_0p, eB_0o, eB_s, eP_0v, eP_0b, eP_s, eS_0, eS_s, getS_0, getS_s, aNil_r, aCons_r, eOp_r, eUn_r, eCall_r, eBm_r, eTup_r, eLst_r, eIf_r, eAnd_r, eOr_r, eNot_r, eIs_r, eChain_r, eSl_r, oNo_r, oSo_r, asI_r, bT_r, bV_r, bYes_r, asB_r, truth_b, truth_l, truth_t, truth_n, truth_i, bAnd_r, bOr_r, bNot_r, oAdd_i, oSub_i, oNeg_i, oLt_i, oLe_i, oGt_i, oGe_i, cInt_i, cInt_b, cLen_l, cLen_t, cList_l, cList_t, cMax2_i, cMin2_i, cAbs_i, isT_int_i, isT_bool_i, isT_bool_b, isT_int_b, isT_tuple_t, isT_list_l, oEq_i, oNe_i, oEq_b, oNe_b, oIsN_n, oNotN_n, oIsN_i, oNotN_i, oIsB_b, oNotB_b, sSeqn_r, sNext_r, sBrk_r, sCnt_r, sRetN_r, sExpr_r, sRet_r, sRetOwn_r, sIf_r, sSet_r, sOwn_r, sAsg_r, gV_r, gT_r, gsNil_r, gsCons_r, sFz_r, sAug_r, addI_r, subI_r, sSeq_r, sArgs_r, itemsOf_l, itemsOf_t, sMut_r, fApp_r, Option.bind_some, Option.map_some, List.length_cons, List.length_nil, Nat.zero_add, Nat.reduceAdd, Nat.reduceLT, Nat.reduceLeDiff, List.set_cons_zero, List.set_cons_succ, if_true, Bool.false_eq_true, if_false, Bool.not_true, Bool.not_false, decide_true, decide_false, reduceCtorEq, e0])]
  exact place_end _ _ _ _ _ _ al P aal lP s w rfl _
/-! ### full lines -/
def cS (P : List Nat) (i : Nat) : Int := ((P.take i).count 32 : Nat)
def jVal (P : List Nat) (s sh mo : Int) (i : Nat) : Int := sumU (P.take i) * s + cS P i * sh + min (cS P i) mo
def justV (P : List Nat) (s sh mo : Int) : List Int := (List.range (P.length + 1)).map (jVal P s sh mo)
def justP (P : List Nat) (s sh mo : Int) (n : Nat) : List Int := (List.range (n + 1)).map (jVal P s sh mo)
theorem cS_b (P : List Nat) (i : Nat) : 0 ≤ cS P i := by unfold cS; omega
theorem cS_s (P : List Nat) (i : Nat) (h : i < P.length) : cS P (i + 1) = cS P i + if P.getD i 0 = 32 then 1 else 0 := by
  unfold cS
  have : P.getD i 0 = P[i] := by rw [List.getD_eq_getElem?_getD, List.getElem?_eq_getElem h]; rfl
  rw [List.take_add_one, List.getElem?_eq_getElem h, List.count_append, this]
  simp only [Option.toList_some]
  by_cases c : P[i] = 32
  · rw [if_pos c, c]; simp
  · rw [if_neg c, List.count_cons_of_ne c]; simp
theorem sum_s (P : List Nat) (s : Int) (i : Nat) (h : i < P.length) : sumU (P.take (i + 1)) * s = sumU (P.take i) * s + uV (P.getD i 0) * s := by
  rw [List.take_add_one, List.getElem?_eq_getElem h, sumU_app, Int.add_mul]
  have : P.getD i 0 = P[i] := by rw [List.getD_eq_getElem?_getD, List.getElem?_eq_getElem h]; rfl
  rw [this]
  simp only [Option.toList_some, sumU, List.map_cons, List.map_nil, List.sum_cons, List.sum_nil, Int.add_zero]
theorem just_zero (P : List Nat) (s : Int) : justV P s 0 0 = offV P s := by
  unfold justV offV
  apply List.map_congr_left
  intro i _
  unfold jVal
  have := cS_b P i
  rw [Int.mul_zero, Int.add_zero, Int.min_eq_right this, Int.add_zero]
theorem just_len (P : List Nat) (s sh mo : Int) : (justV P s sh mo).length = P.length + 1 := by unfold justV; simp
theorem just_get (P : List Nat) (s sh mo : Int) (i : Nat) (h : i ≤ P.length) : (justV P s sh mo)[i]? = some (jVal P s sh mo i) := by
  unfold justV
  rw [List.getElem?_map, List.getElem?_range (by omega)]; rfl
theorem just_ix (P : List Nat) (s sh mo : Int) (i : Nat) (h : i ≤ P.length) : oIx (.list ((justV P s sh mo).map .int)) (.int (i : Nat)) = some (.int (jVal P s sh mo i)) := by
  rw [oIx_l, atI_pos (by omega), Int.toNat_natCast, List.getElem?_map, just_get P s sh mo i h]; rfl
theorem just_last (P : List Nat) (s sh mo : Int) : oIx (.list ((justV P s sh mo).map .int)) (.int (-1)) = some (.int (jVal P s sh mo P.length)) := by
  unfold justV
  rw [List.range_succ, List.map_append, List.map_append]
  exact atI_last _ _
theorem justP_s (P : List Nat) (s sh mo : Int) (n : Nat) : justP P s sh mo (n + 1) = justP P s sh mo n ++ [jVal P s sh mo (n + 1)] := by
  unfold justP
  rw [List.range_succ, List.map_append]; rfl
theorem lit_sp2 : PyData.str (Str.ofString " ") = tS [32] := lit_sp
theorem cntN (c : Nat) : ∀ l : List Nat, PyProof.Rows.cnt c l = (l.count c : Nat)
  | [] => rfl
  | n :: r => by
    rw [PyProof.Rows.cnt_cons, cntN c r]
    by_cases h : n = c
    · subst h; rw [if_pos rfl, List.count_cons_self]; omega
    · rw [if_neg h, List.count_cons_of_ne h]; omega
theorem count_gen (l : List Nat) (c : Nat) : oCount (tS l) (tS [c]) = some (.int (l.count c : Nat)) := by
  unfold tS oCount
  simp only []
  congr 2
  show (Txt.count (⟨l.toArray⟩ : Str) ⟨#[c]⟩ : Int) = _
  rw [PyProof.Rows.count_cnt (⟨l.toArray⟩ : Str) c]
  exact cntN c l
/-- the places of a full line -/
theorem just_step (P : List Nat) (aP : Asc P) (lP : P.length ≤ 4000) (s sh mo : Int) (d2 sp : Slot) (OO J : List PyData) (k : Nat) (hkP : k < P.length) (lt : J.length < sizeLine) (c0 c1 u : Int) (hc : c1 = c0 + if P.getD k 0 = 32 then 1 else 0)
    (e2 : oIx (.list OO) (.int ((k : Int) + 1)) = some (.int u)) (hm : oMulS (.int c1) (.int sh) = some (.int (c1 * sh))) :
    L_justified_1 [.val (tS P), .own (.list OO), d2, sp, .val (.int sh), .val (.int mo), .own (.list J), .val (.int c0), .val (.int (k : Nat))] = some (.nx [.val (tS P), .own (.list OO), d2, sp, .val (.int sh), .val (.int mo), .own (.list (J ++ [.int (u + c1 * sh + min c1 mo)])), .val (.int c1), .val (.int (k : Nat))]) := by
  obtain ⟨a1, a2⟩ := tAt P aP (by omega) k hkP
  have e1 := eqC (c := P.getD k 0) (d := 32) a2 (by decide)
  generalize P.getD k 0 = ch at *
  unfold L_justified_1
  rw [lit_sp]
  rw [seq_nx (ρ' := [.val (tS P), .own (.list OO), d2, sp, .val (.int sh), .val (.int mo), .own (.list J), .val (.int c1), .val (.int (k : Nat))]) (by
    by_cases c : ch = 32
    · rw [if_pos c] at hc
      rw [decide_eq_true c] at e1
      simp only [eK_r, eV_0, eV_s, eB_0v, eB_0b, eB_0p, eB_0o, eB_s, eP_0v, eP_0b, eP_s, eS_0, eS_s, getS_0, getS_s, aNil_r, aCons_r, eOp_r, eUn_r, eCall_r, eBm_r, eTup_r, eLst_r, eIf_r, eAnd_r, eOr_r, eNot_r, eIs_r, eChain_r, eSl_r, oNo_r, oSo_r, asI_r, bT_r, bV_r, bYes_r, asB_r, truth_b, truth_l, truth_t, truth_n, truth_i, bAnd_r, bOr_r, bNot_r, oAdd_i, oSub_i, oNeg_i, oLt_i, oLe_i, oGt_i, oGe_i, cInt_i, cInt_b, cLen_l, cLen_t, cList_l, cList_t, cMax2_i, cMin2_i, cAbs_i, isT_int_i, isT_bool_i, isT_bool_b, isT_int_b, isT_tuple_t, isT_list_l, oEq_i, oNe_i, oEq_b, oNe_b, oIsN_n, oNotN_n, oIsN_i, oNotN_i, oIsB_b, oNotB_b, sSeqn_r, sNext_r, sBrk_r, sCnt_r, sRetN_r, sExpr_r, sRet_r, sRetOwn_r, sIf_r, sSet_r, sOwn_r, sAsg_r, gV_r, gT_r, gsNil_r, gsCons_r, sFz_r, sAug_r, addI_r, subI_r, sSeq_r, sArgs_r, itemsOf_l, itemsOf_t, sMut_r, fApp_r, Option.bind_some, Option.map_some, List.length_cons, List.length_nil, Nat.zero_add, Nat.reduceAdd, Nat.reduceLT, Nat.reduceLeDiff, List.set_cons_zero, List.set_cons_succ, if_true, Bool.false_eq_true, if_false, Bool.not_true, Bool.not_false, decide_true, decide_false, reduceCtorEq, a1, e1, hc]
    · rw [if_neg c, Int.add_zero] at hc
      rw [decide_eq_false c] at e1
      simp only [eK_r, eV_0, eV_s, eB_0v, eB_0b, eB_0p, eB_0o, eB_s, eP_0v, eP_0b, eP_s, eS_0, eS_s, getS_0, getS_s, aNil_r, aCons_r, eOp_r, eUn_r, eCall_r, eBm_r, eTup_r, eLst_r, eIf_r, eAnd_r, eOr_r, eNot_r, eIs_r, eChain_r, eSl_r, oNo_r, oSo_r, asI_r, bT_r, bV_r, bYes_r, asB_r, truth_b, truth_l, truth_t, truth_n, truth_i, bAnd_r, bOr_r, bNot_r, oAdd_i, oSub_i, oNeg_i, oLt_i, oLe_i, oGt_i, oGe_i, cInt_i, cInt_b, cLen_l, cLen_t, cList_l, cList_t, cMax2_i, cMin2_i, cAbs_i, isT_int_i, isT_bool_i, isT_bool_b, isT_int_b, isT_tuple_t, isT_list_l, oEq_i, oNe_i, oEq_b, oNe_b, oIsN_n, oNotN_n, oIsN_i, oNotN_i, oIsB_b, oNotB_b, sSeqn_r, sNext_r, sBrk_r, sCnt_r, sRetN_r, sExpr_r, sRet_r, sRetOwn_r, sIf_r, sSet_r, sOwn_r, sAsg_r, gV_r, gT_r, gsNil_r, gsCons_r, sFz_r, sAug_r, addI_r, subI_r, sSeq_r, sArgs_r, itemsOf_l, itemsOf_t, sMut_r, fApp_r, Option.bind_some, Option.map_some, List.length_cons, List.length_nil, Nat.zero_add, Nat.reduceAdd, Nat.reduceLT, Nat.reduceLeDiff, List.set_cons_zero, List.set_cons_succ, if_true, Bool.false_eq_true, if_false, Bool.not_true, Bool.not_false, decide_true, decide_false, reduceCtorEq, a1, e1, hc])]
  simp only [eK_r, eV_0, eV_s, eB_0v, eB_0b, eB_0p, eB_0o, eB_s, eP_0v, eP_0b, eP_s, eS_0, eS_s, getS_0, getS_s, aNil_r, aCons_r, eOp_r, eUn_r, eCall_r, eBm_r, eTup_r, eLst_r, eIf_r, eAnd_r, eOr_r, eNot_r, eIs_r, eChain_r, eSl_r, oNo_r, oSo_r, asI_r, bT_r, bV_r, bYes_r, asB_r, truth_b, truth_l, truth_t, truth_n, truth_i, bAnd_r, bOr_r, bNot_r, oAdd_i, oSub_i, oNeg_i, oLt_i, oLe_i, oGt_i, oGe_i, cInt_i, cInt_b, cLen_l, cLen_t, cList_l, cList_t, cMax2_i, cMin2_i, cAbs_i, isT_int_i, isT_bool_i, isT_bool_b, isT_int_b, isT_tuple_t, isT_list_l, oEq_i, oNe_i, oEq_b, oNe_b, oIsN_n, oNotN_n, oIsN_i, oNotN_i, oIsB_b, oNotB_b, sSeqn_r, sNext_r, sBrk_r, sCnt_r, sRetN_r, sExpr_r, sRet_r, sRetOwn_r, sIf_r, sSet_r, sOwn_r, sAsg_r, gV_r, gT_r, gsNil_r, gsCons_r, sFz_r, sAug_r, addI_r, subI_r, sSeq_r, sArgs_r, itemsOf_l, itemsOf_t, sMut_r, fApp_r, Option.bind_some, Option.map_some, List.length_cons, List.length_nil, Nat.zero_add, Nat.reduceAdd, Nat.reduceLT, Nat.reduceLeDiff, List.set_cons_zero, List.set_cons_succ, if_true, Bool.false_eq_true, if_false, Bool.not_true, Bool.not_false, decide_true, decide_false, reduceCtorEq, e2, hm, lt]
theorem justGo (P : List Nat) (aP : Asc P) (lP : P.length ≤ 4000) (s rs sh mo : Int) (hs : -1000000 < sh ∧ sh < 18446744073709551616) (sp : Slot) : ∀ n : Nat, n ≤ P.length → ∀ x8, ∃ y7 y8, forGo (gV 8) L_justified_1 (rangeD ((P.length - n : Nat) : Int) n)
    [.val (tS P), .own (.list ((offV P s).map .int)), .val (.int rs), sp, .val (.int sh), .val (.int mo), .own (.list ((justP P s sh mo (P.length - n)).map .int)), .val (.int (cS P (P.length - n))), x8] = some (.nx [.val (tS P), .own (.list ((offV P s).map .int)), .val (.int rs), sp, .val (.int sh), .val (.int mo), .own (.list ((justV P s sh mo).map .int)), y7, y8]) := by
  intro n
  induction n with
  | zero => intro _ x8; exact ⟨_, x8, rfl⟩
  | succ n ihn =>
    intro hn x8
    obtain ⟨y7, y8, ih⟩ := ihn (by omega) (.val (.int ((P.length - (n + 1) : Nat) : Int)))
    rw [rangeD_down P.length n hn]
    generalize hk : P.length - (n + 1) = k at *
    have hk1 : P.length - n = k + 1 := by omega
    have hkP : k < P.length := by omega
    rw [hk1] at ih ⊢
    refine ⟨y7, y8, ?_⟩
    have e2 : oIx (.list ((offV P s).map .int)) (.int ((k : Int) + 1)) = some (.int (sumU (P.take (k + 1)) * s)) := by
      rw [oIx_l, atI_pos (by omega), show ((k : Int) + 1).toNat = k + 1 by omega, List.getElem?_map, offV_get P s (k + 1) (by omega)]; rfl
    have hcs := cS_s P k hkP
    have hcl : cS P (k + 1) ≤ 4000 := by
      unfold cS
      have := List.count_le_length (a := 32) (l := P.take (k + 1))
      have := List.length_take_le' (k + 1) P
      omega
    have hcb1 := cS_b P (k + 1)
    have hm : oMulS (.int (cS P (k + 1))) (.int sh) = some (.int (cS P (k + 1) * sh)) := oMul_l (by omega) (by omega)
    have lt : ((justP P s sh mo k).map PyData.int).length < sizeLine := by rw [List.length_map]; unfold justP; rw [List.length_map, List.length_range, sizeLine_eq]; omega
    have hj : ((justP P s sh mo (k + 1)).map PyData.int) = (justP P s sh mo k).map .int ++ [.int (sumU (P.take (k + 1)) * s + cS P (k + 1) * sh + min (cS P (k + 1)) mo)] := by
      rw [justP_s, List.map_append]; rfl
    rw [hj] at ih
    have st := just_step P aP lP s sh mo (.val (.int rs)) sp ((offV P s).map .int) ((justP P s sh mo k).map .int) k hkP lt (cS P k) (cS P (k + 1)) _ hcs e2 hm
    rw [forGo, show gV 8 (.int (k : Nat)) [.val (tS P), .own (.list ((offV P s).map .int)), .val (.int rs), sp, .val (.int sh), .val (.int mo), .own (.list ((justP P s sh mo k).map .int)), .val (.int (cS P k)), x8] = some [.val (tS P), .own (.list ((offV P s).map .int)), .val (.int rs), sp, .val (.int sh), .val (.int mo), .own (.list ((justP P s sh mo k).map .int)), .val (.int (cS P k)), .val (.int (k : Nat))] from rfl, Option.bind_some, st]
    exact ih
theorem subMul {a b c : SE} {ρ : Rho} {x y z q : Int} (h1 : a ρ = some (.int x)) (h2 : b ρ = some (.int y)) (h3 : c ρ = some (.int z)) (h4 : oMulS (.int y) (.int z) = some (.int q)) : eOp oSub a (eOp oMulS b c) ρ = some (.int (x - q)) := by
  unfold eOp
  rw [h1, h2, h3, Option.bind_some, Option.bind_some, Option.bind_some, h4, Option.bind_some]
  rfl
theorem just_eq (P : List Nat) (aP : Asc P) (lP : P.length ≤ 4000) (s rs : Int) (hr : 0 ≤ rs ∧ rs ≤ 1000000000) : ∃ sh mo : Int, 0 ≤ sh ∧ 0 ≤ mo ∧ F_justified [tS P, .list ((offV P s).map .int), .int rs] = some (.list ((justV P s sh mo).map .int)) ∧ (32 ∉ P → sh = 0 ∧ mo = 0) ∧ (32 ∈ P → mo < (P.count 32 : Nat) ∧ (P.count 32 : Nat) * sh + mo = rs) := by
  have cc := count_gen P 32
  have hcl := List.count_le_length (a := 32) (l := P)
  by_cases h : 32 ∈ P
  · have hpos : 0 < P.count 32 := List.count_pos_iff.mpr h
    generalize P.count 32 = c at *
    have q1 := Int.mul_ediv_add_emod rs c
    have q2 := Int.emod_nonneg rs (show (c : Int) ≠ 0 by omega)
    have q3 := Int.emod_lt_of_pos rs (show (0 : Int) < c by omega)
    have q4 : 0 ≤ rs / (c : Int) := Int.ediv_nonneg hr.1 (by omega)
    have q5 : rs / (c : Int) ≤ rs := Int.ediv_le_self _ hr.1
    have f1 : oFdiv (.int rs) (.int (c : Nat)) = some (.int (rs / (c : Int))) := oFdiv_i (by omega) (by omega)
    generalize rs / (c : Int) = sh at *
    have f2 : oMulS (.int (c : Nat)) (.int sh) = some (.int ((c : Int) * sh)) := oMul_l (by omega) (by omega)
    refine ⟨sh, rs - c * sh, q4, by omega, ?_, fun z => absurd h z, fun _ => ⟨by omega, by omega⟩⟩
    generalize hmo : rs - c * sh = mo at *
    refine boxM_rt rfl ?_
    show B_justified [.val (tS P), .own (.list ((offV P s).map .int)), .val (.int rs), .un, .un, .un, .un, .un, .un] = _
    obtain ⟨y7, y8, e⟩ := justGo P aP lP s rs sh mo (by omega) (.val (.int (c : Nat))) P.length (Nat.le_refl _) .un
    rw [Nat.sub_self] at e
    have e0 : justP P s sh mo 0 = [0] := by unfold justP jVal cS sumU; simp; omega
    have c0 : cS P 0 = 0 := by unfold cS; simp
    rw [e0, c0] at e
    have e : forGo (gV 8) L_justified_1 (rangeD 0 P.length) [.val (tS P), .own (.list ((offV P s).map .int)), .val (.int rs), .val (.int (c : Nat)), .val (.int sh), .val (.int mo), .own (.list [.int 0]), .val (.int 0), .un] = _ := e
    have lt := tLen P (by omega)
    have nz : ((c : Int) = 0) = False := by simp; omega
    have le1 : 1 ≤ sizeLine := size_le (by decide)
    unfold B_justified
    rw [lit_sp]
    generalize (offV P s).map PyData.int = OO at *
    generalize (justV P s sh mo).map PyData.int = JV at *
    generalize (c : Int) = ci at *
    rw [seq_nx (ρ' := [.val (tS P), .own (.list OO), .val (.int rs), .val (.int ci), .un, .un, .un, .un, .un]) (by simp only [eK_r, eV_0, eV_s, eB_0v, eB_0b, eB_0p, eB_0o, eB_s, eP_0v, eP_0b, eP_s, eS_0, eS_s, getS_0, getS_s, aNil_r, aCons_r, eOp_r, eUn_r, eCall_r, eBm_r, eTup_r, eLst_r, eIf_r, eAnd_r, eOr_r, eNot_r, eIs_r, eChain_r, eSl_r, oNo_r, oSo_r, asI_r, bT_r, bV_r, bYes_r, asB_r, truth_b, truth_l, truth_t, truth_n, truth_i, bAnd_r, bOr_r, bNot_r, oAdd_i, oSub_i, oNeg_i, oLt_i, oLe_i, oGt_i, oGe_i, cInt_i, cInt_b, cLen_l, cLen_t, cList_l, cList_t, cMax2_i, cMin2_i, cAbs_i, isT_int_i, isT_bool_i, isT_bool_b, isT_int_b, isT_tuple_t, isT_list_l, oEq_i, oNe_i, oEq_b, oNe_b, oIsN_n, oNotN_n, oIsN_i, oNotN_i, oIsB_b, oNotB_b, sSeqn_r, sNext_r, sBrk_r, sCnt_r, sRetN_r, sExpr_r, sRet_r, sRetOwn_r, sIf_r, sSet_r, sOwn_r, sAsg_r, gV_r, gT_r, gsNil_r, gsCons_r, sFz_r, sAug_r, addI_r, subI_r, sSeq_r, sArgs_r, itemsOf_l, itemsOf_t, sMut_r, fApp_r, Option.bind_some, Option.map_some, List.length_cons, List.length_nil, Nat.zero_add, Nat.reduceAdd, Nat.reduceLT, Nat.reduceLeDiff, List.set_cons_zero, List.set_cons_succ, if_true, Bool.false_eq_true, if_false, Bool.not_true, Bool.not_false, decide_true, decide_false, reduceCtorEq, cc])]
    rw [seq_nx (ρ' := [.val (tS P), .own (.list OO), .val (.int rs), .val (.int ci), .un, .un, .un, .un, .un]) (by simp only [eK_r, eV_0, eV_s, eB_0v, eB_0b, eB_0p, eB_0o, eB_s, eP_0v, eP_0b, eP_s, eS_0, eS_s, getS_0, getS_s, aNil_r, aCons_r, eOp_r, eUn_r, eCall_r, eBm_r, eTup_r, eLst_r, eIf_r, eAnd_r, eOr_r, eNot_r, eIs_r, eChain_r, eSl_r, oNo_r, oSo_r, asI_r, bT_r, bV_r, bYes_r, asB_r, truth_b, truth_l, truth_t, truth_n, truth_i, bAnd_r, bOr_r, bNot_r, oAdd_i, oSub_i, oNeg_i, oLt_i, oLe_i, oGt_i, oGe_i, cInt_i, cInt_b, cLen_l, cLen_t, cList_l, cList_t, cMax2_i, cMin2_i, cAbs_i, isT_int_i, isT_bool_i, isT_bool_b, isT_int_b, isT_tuple_t, isT_list_l, oEq_i, oNe_i, oEq_b, oNe_b, oIsN_n, oNotN_n, oIsN_i, oNotN_i, oIsB_b, oNotB_b, sSeqn_r, sNext_r, sBrk_r, sCnt_r, sRetN_r, sExpr_r, sRet_r, sRetOwn_r, sIf_r, sSet_r, sOwn_r, sAsg_r, gV_r, gT_r, gsNil_r, gsCons_r, sFz_r, sAug_r, addI_r, subI_r, sSeq_r, sArgs_r, itemsOf_l, itemsOf_t, sMut_r, fApp_r, Option.bind_some, Option.map_some, List.length_cons, List.length_nil, Nat.zero_add, Nat.reduceAdd, Nat.reduceLT, Nat.reduceLeDiff, List.set_cons_zero, List.set_cons_succ, if_true, Bool.false_eq_true, if_false, Bool.not_true, Bool.not_false, decide_true, decide_false, reduceCtorEq, nz])]
    rw [seq_nx (ρ' := [.val (tS P), .own (.list OO), .val (.int rs), .val (.int ci), .val (.int sh), .un, .un, .un, .un]) (by simp only [eK_r, eV_0, eV_s, eB_0v, eB_0b, eB_0p, eB_0o, eB_s, eP_0v, eP_0b, eP_s, eS_0, eS_s, getS_0, getS_s, aNil_r, aCons_r, eOp_r, eUn_r, eCall_r, eBm_r, eTup_r, eLst_r, eIf_r, eAnd_r, eOr_r, eNot_r, eIs_r, eChain_r, eSl_r, oNo_r, oSo_r, asI_r, bT_r, bV_r, bYes_r, asB_r, truth_b, truth_l, truth_t, truth_n, truth_i, bAnd_r, bOr_r, bNot_r, oAdd_i, oSub_i, oNeg_i, oLt_i, oLe_i, oGt_i, oGe_i, cInt_i, cInt_b, cLen_l, cLen_t, cList_l, cList_t, cMax2_i, cMin2_i, cAbs_i, isT_int_i, isT_bool_i, isT_bool_b, isT_int_b, isT_tuple_t, isT_list_l, oEq_i, oNe_i, oEq_b, oNe_b, oIsN_n, oNotN_n, oIsN_i, oNotN_i, oIsB_b, oNotB_b, sSeqn_r, sNext_r, sBrk_r, sCnt_r, sRetN_r, sExpr_r, sRet_r, sRetOwn_r, sIf_r, sSet_r, sOwn_r, sAsg_r, gV_r, gT_r, gsNil_r, gsCons_r, sFz_r, sAug_r, addI_r, subI_r, sSeq_r, sArgs_r, itemsOf_l, itemsOf_t, sMut_r, fApp_r, Option.bind_some, Option.map_some, List.length_cons, List.length_nil, Nat.zero_add, Nat.reduceAdd, Nat.reduceLT, Nat.reduceLeDiff, List.set_cons_zero, List.set_cons_succ, if_true, Bool.false_eq_true, if_false, Bool.not_true, Bool.not_false, decide_true, decide_false, reduceCtorEq, f1])]
    rw [seq_nx (ρ' := [.val (tS P), .own (.list OO), .val (.int rs), .val (.int ci), .val (.int sh), .val (.int mo), .un, .un, .un]) (by
      rw [← hmo]
      exact sSet_eq (subMul rfl rfl rfl f2) (by simp))]
    rw [seq_nx (ρ' := [.val (tS P), .own (.list OO), .val (.int rs), .val (.int ci), .val (.int sh), .val (.int mo), .own (.list [.int 0]), .un, .un]) (by simp only [eK_r, eV_0, eV_s, eB_0v, eB_0b, eB_0p, eB_0o, eB_s, eP_0v, eP_0b, eP_s, eS_0, eS_s, getS_0, getS_s, aNil_r, aCons_r, eOp_r, eUn_r, eCall_r, eBm_r, eTup_r, eLst_r, eIf_r, eAnd_r, eOr_r, eNot_r, eIs_r, eChain_r, eSl_r, oNo_r, oSo_r, asI_r, bT_r, bV_r, bYes_r, asB_r, truth_b, truth_l, truth_t, truth_n, truth_i, bAnd_r, bOr_r, bNot_r, oAdd_i, oSub_i, oNeg_i, oLt_i, oLe_i, oGt_i, oGe_i, cInt_i, cInt_b, cLen_l, cLen_t, cList_l, cList_t, cMax2_i, cMin2_i, cAbs_i, isT_int_i, isT_bool_i, isT_bool_b, isT_int_b, isT_tuple_t, isT_list_l, oEq_i, oNe_i, oEq_b, oNe_b, oIsN_n, oNotN_n, oIsN_i, oNotN_i, oIsB_b, oNotB_b, sSeqn_r, sNext_r, sBrk_r, sCnt_r, sRetN_r, sExpr_r, sRet_r, sRetOwn_r, sIf_r, sSet_r, sOwn_r, sAsg_r, gV_r, gT_r, gsNil_r, gsCons_r, sFz_r, sAug_r, addI_r, subI_r, sSeq_r, sArgs_r, itemsOf_l, itemsOf_t, sMut_r, fApp_r, Option.bind_some, Option.map_some, List.length_cons, List.length_nil, Nat.zero_add, Nat.reduceAdd, Nat.reduceLT, Nat.reduceLeDiff, List.set_cons_zero, List.set_cons_succ, if_true, Bool.false_eq_true, if_false, Bool.not_true, Bool.not_false, decide_true, decide_false, reduceCtorEq, le1])]
    rw [seq_nx (ρ' := [.val (tS P), .own (.list OO), .val (.int rs), .val (.int ci), .val (.int sh), .val (.int mo), .own (.list [.int 0]), .val (.int 0), .un]) (by simp only [eK_r, eV_0, eV_s, eB_0v, eB_0b, eB_0p, eB_0o, eB_s, eP_0v, eP_0b, eP_s, eS_0, eS_s, getS_0, getS_s, aNil_r, aCons_r, eOp_r, eUn_r, eCall_r, eBm_r, eTup_r, eLst_r, eIf_r, eAnd_r, eOr_r, eNot_r, eIs_r, eChain_r, eSl_r, oNo_r, oSo_r, asI_r, bT_r, bV_r, bYes_r, asB_r, truth_b, truth_l, truth_t, truth_n, truth_i, bAnd_r, bOr_r, bNot_r, oAdd_i, oSub_i, oNeg_i, oLt_i, oLe_i, oGt_i, oGe_i, cInt_i, cInt_b, cLen_l, cLen_t, cList_l, cList_t, cMax2_i, cMin2_i, cAbs_i, isT_int_i, isT_bool_i, isT_bool_b, isT_int_b, isT_tuple_t, isT_list_l, oEq_i, oNe_i, oEq_b, oNe_b, oIsN_n, oNotN_n, oIsN_i, oNotN_i, oIsB_b, oNotB_b, sSeqn_r, sNext_r, sBrk_r, sCnt_r, sRetN_r, sExpr_r, sRet_r, sRetOwn_r, sIf_r, sSet_r, sOwn_r, sAsg_r, gV_r, gT_r, gsNil_r, gsCons_r, sFz_r, sAug_r, addI_r, subI_r, sSeq_r, sArgs_r, itemsOf_l, itemsOf_t, sMut_r, fApp_r, Option.bind_some, Option.map_some, List.length_cons, List.length_nil, Nat.zero_add, Nat.reduceAdd, Nat.reduceLT, Nat.reduceLeDiff, List.set_cons_zero, List.set_cons_succ, if_true, Bool.false_eq_true, if_false, Bool.not_true, Bool.not_false, decide_true, decide_false, reduceCtorEq])]
    rw [seq_nx ((sFor_eq (sArgs_eq (ds := [.int (P.length : Nat)]) (by simp only [eK_r, eV_0, eV_s, eB_0v, eB_0b, eB_0p, eB_0o, eB_s, eP_0v, eP_0b, eP_s, eS_0, eS_s, getS_0, getS_s, aNil_r, aCons_r, eOp_r, eUn_r, eCall_r, eBm_r, eTup_r, eLst_r, eIf_r, eAnd_r, eOr_r, eNot_r, eIs_r, eChain_r, eSl_r, oNo_r, oSo_r, asI_r, bT_r, bV_r, bYes_r, asB_r, truth_b, truth_l, truth_t, truth_n, truth_i, bAnd_r, bOr_r, bNot_r, oAdd_i, oSub_i, oNeg_i, oLt_i, oLe_i, oGt_i, oGe_i, cInt_i, cInt_b, cLen_l, cLen_t, cList_l, cList_t, cMax2_i, cMin2_i, cAbs_i, isT_int_i, isT_bool_i, isT_bool_b, isT_int_b, isT_tuple_t, isT_list_l, oEq_i, oNe_i, oEq_b, oNe_b, oIsN_n, oNotN_n, oIsN_i, oNotN_i, oIsB_b, oNotB_b, sSeqn_r, sNext_r, sBrk_r, sCnt_r, sRetN_r, sExpr_r, sRet_r, sRetOwn_r, sIf_r, sSet_r, sOwn_r, sAsg_r, gV_r, gT_r, gsNil_r, gsCons_r, sFz_r, sAug_r, addI_r, subI_r, sSeq_r, sArgs_r, itemsOf_l, itemsOf_t, sMut_r, fApp_r, Option.bind_some, Option.map_some, List.length_cons, List.length_nil, Nat.zero_add, Nat.reduceAdd, Nat.reduceLT, Nat.reduceLeDiff, List.set_cons_zero, List.set_cons_succ, if_true, Bool.false_eq_true, if_false, Bool.not_true, Bool.not_false, decide_true, decide_false, reduceCtorEq, lt]) (rng1_n _ (by omega)))).trans e)]
    simp only [eK_r, eV_0, eV_s, eB_0v, eB_0b, eB_0p, eB_0o, eB_s, eP_0v, eP_0b, eP_s, eS_0, eS_s, getS_0, getS_s, aNil_r, aCons_r, eOp_r, eUn_r, eCall_r, eBm_r, eTup_r, eLst_r, eIf_r, eAnd_r, eOr_r, eNot_r, eIs_r, eChain_r, eSl_r, oNo_r, oSo_r, asI_r, bT_r, bV_r, bYes_r, asB_r, truth_b, truth_l, truth_t, truth_n, truth_i, bAnd_r, bOr_r, bNot_r, oAdd_i, oSub_i, oNeg_i, oLt_i, oLe_i, oGt_i, oGe_i, cInt_i, cInt_b, cLen_l, cLen_t, cList_l, cList_t, cMax2_i, cMin2_i, cAbs_i, isT_int_i, isT_bool_i, isT_bool_b, isT_int_b, isT_tuple_t, isT_list_l, oEq_i, oNe_i, oEq_b, oNe_b, oIsN_n, oNotN_n, oIsN_i, oNotN_i, oIsB_b, oNotB_b, sSeqn_r, sNext_r, sBrk_r, sCnt_r, sRetN_r, sExpr_r, sRet_r, sRetOwn_r, sIf_r, sSet_r, sOwn_r, sAsg_r, gV_r, gT_r, gsNil_r, gsCons_r, sFz_r, sAug_r, addI_r, subI_r, sSeq_r, sArgs_r, itemsOf_l, itemsOf_t, sMut_r, fApp_r, Option.bind_some, Option.map_some, List.length_cons, List.length_nil, Nat.zero_add, Nat.reduceAdd, Nat.reduceLT, Nat.reduceLeDiff, List.set_cons_zero, List.set_cons_succ, if_true, Bool.false_eq_true, if_false, Bool.not_true, Bool.not_false, decide_true, decide_false, reduceCtorEq]
  · have h0 : P.count 32 = 0 := List.count_eq_zero.mpr h
    rw [h0] at cc
    have cc : oCount (tS P) (tS [32]) = some (.int 0) := cc
    refine ⟨0, 0, Int.le_refl _, Int.le_refl _, ?_, fun _ => ⟨rfl, rfl⟩, fun z => absurd z h⟩
    rw [just_zero]
    refine boxM_rt rfl ?_
    show B_justified [.val (tS P), .own (.list ((offV P s).map .int)), .val (.int rs), .un, .un, .un, .un, .un, .un] = _
    unfold B_justified
    rw [lit_sp]
    simp only [eK_r, eV_0, eV_s, eB_0v, eB_0b, eB_0p, eB_0o, eB_s, eP_0v, eP_0b, eP_s, eS_0, eS_s, getS_0, getS_s, aNil_r, aCons_r, eOp_r, eUn_r, eCall_r, eBm_r, eTup_r, eLst_r, eIf_r, eAnd_r, eOr_r, eNot_r, eIs_r, eChain_r, eSl_r, oNo_r, oSo_r, asI_r, bT_r, bV_r, bYes_r, asB_r, truth_b, truth_l, truth_t, truth_n, truth_i, bAnd_r, bOr_r, bNot_r, oAdd_i, oSub_i, oNeg_i, oLt_i, oLe_i, oGt_i, oGe_i, cInt_i, cInt_b, cLen_l, cLen_t, cList_l, cList_t, cMax2_i, cMin2_i, cAbs_i, isT_int_i, isT_bool_i, isT_bool_b, isT_int_b, isT_tuple_t, isT_list_l, oEq_i, oNe_i, oEq_b, oNe_b, oIsN_n, oNotN_n, oIsN_i, oNotN_i, oIsB_b, oNotB_b, sSeqn_r, sNext_r, sBrk_r, sCnt_r, sRetN_r, sExpr_r, sRet_r, sRetOwn_r, sIf_r, sSet_r, sOwn_r, sAsg_r, gV_r, gT_r, gsNil_r, gsCons_r, sFz_r, sAug_r, addI_r, subI_r, sSeq_r, sArgs_r, itemsOf_l, itemsOf_t, sMut_r, fApp_r, Option.bind_some, Option.map_some, List.length_cons, List.length_nil, Nat.zero_add, Nat.reduceAdd, Nat.reduceLT, Nat.reduceLeDiff, List.set_cons_zero, List.set_cons_succ, if_true, Bool.false_eq_true, if_false, Bool.not_true, Bool.not_false, decide_true, decide_false, reduceCtorEq, cc]
theorem placeF_eq (T : List Nat) (aT : Asc T) (lT : T.length ≤ 4000) (p : Nat × Nat) (h1 : p.1 ≤ p.2) (h2 : p.2 ≤ T.length) (s w : Int) (hw : w ≤ 1000000000) (hs : 0 ≤ s) : ∃ sh mo : Int, 0 ≤ sh ∧ 0 ≤ mo ∧
    F_place_line [tS T, encP p, .int s, .int w, tS FULLs] = some (.list ((justV (cutG T (some (p.1 : Nat)) (some (p.2 : Nat))) s sh mo).map .int)) ∧
    (blk (restV T p.2) = true ∨ 32 ∉ cutG T (some (p.1 : Nat)) (some (p.2 : Nat)) → sh = 0 ∧ mo = 0) ∧ (blk (restV T p.2) = false → 32 ∈ cutG T (some (p.1 : Nat)) (some (p.2 : Nat)) → mo < ((cutG T (some (p.1 : Nat)) (some (p.2 : Nat))).count 32 : Nat) ∧ ((cutG T (some (p.1 : Nat)) (some (p.2 : Nat))).count 32 : Nat) * sh + mo = restP (cutG T (some (p.1 : Nat)) (some (p.2 : Nat))) s w) := by
  have a0 : oIx (encP p) (.int 0) = some (.int (p.1 : Nat)) := rfl
  have a1 : oIx (encP p) (.int 1) = some (.int (p.2 : Nat)) := rfl
  have s1 := tSl T (some (p.1 : Nat)) (some (p.2 : Nat)) (by omega)
  have lP : (cutG T (some (p.1 : Nat)) (some (p.2 : Nat))).length ≤ 4000 := by
    have := cutG_len T (i := (p.1 : Int)) (j := (p.2 : Int)) (by omega) (by omega)
    omega
  have aP := aT.cut (some (p.1 : Nat)) (some (p.2 : Nat))
  have he := ends_eq T aT (by omega) p h2
  generalize cutG T (some (p.1 : Nat)) (some (p.2 : Nat)) = P at *
  generalize blk (restV T p.2) = e at *
  have ho := offsets_eq P (by omega) aP s
  have hlast := offV_last P s
  have e0 := eq_lists FULLs FULLs asc_full asc_full
  rw [decide_eq_true rfl] at e0
  have hsu := sumU_b P
  have hmul := Int.mul_nonneg hsu.1 hs
  have hrs : 0 ≤ restP P s w ∧ restP P s w ≤ 1000000000 := by unfold restP; omega
  obtain ⟨sh, mo, j1, j2, j3, j4, j5⟩ := just_eq P aP lP s (restP P s w) hrs
  have hm : max 0 (w - sumU P * s) = restP P s w := rfl
  have start : ∀ r, (sSeqn (sIf (bAnd (bT (eOp oEq (eB 4) (eK (tS FULLs)))) (bNot (bV (eCall F_ends_paragraph (aCons (eB 0) (aCons (eB 1) aNil))))))
    (sRetMov F_justified (aCons (eV 5) (aCons (eM 6) (aCons (eV 7) aNil))))
    sNext)
  (sSeqn (sSet 8 (eK (.int 0)))
  (sSeqn (sIf (bT (eOp oEq (eB 4) (eK (tS RIGHTs))))
    (sSet 8 (eV 7))
    (sIf (bT (eOp oEq (eB 4) (eK (tS CENTERs))))
      (sSet 8 (eOp oFdiv (eB 7) (eK (.int 2))))
      sNext))
  (sRet (eLc (sSeq (eB 6)) (gV 9) bYes (eOp oAdd (eB 9) (eB 8)) [9]))))) [.bor (tS T), .bor (encP p), .bor (.int s), .bor (.int w), .bor (tS FULLs), .val (tS P), .own (.list ((offV P s).map .int)), .val (.int (restP P s w)), .un, .un] = some (.rt r) → F_place_line [tS T, encP p, .int s, .int w, tS FULLs] = some r := fun r hr => by
    refine box_rt rfl ?_
    show B_place_line [.bor (tS T), .bor (encP p), .bor (.int s), .bor (.int w), .bor (tS FULLs), .un, .un, .un, .un, .un] = _
    unfold B_place_line
    rw [lit_full, lit_right, lit_center]
    rw [seq_nx (ρ' := [.bor (tS T), .bor (encP p), .bor (.int s), .bor (.int w), .bor (tS FULLs), .val (tS P), .un, .un, .un, .un]) (by simp only [eK_r, eV_0, eV_s, eB_0v, eB_0b, eB_0p, eB_0o, eB_s, eP_0v, eP_0b, eP_s, eS_0, eS_s, getS_0, getS_s, aNil_r, aCons_r, eOp_r, eUn_r, eCall_r, eBm_r, eTup_r, eLst_r, eIf_r, eAnd_r, eOr_r, eNot_r, eIs_r, eChain_r, eSl_r, oNo_r, oSo_r, asI_r, bT_r, bV_r, bYes_r, asB_r, truth_b, truth_l, truth_t, truth_n, truth_i, bAnd_r, bOr_r, bNot_r, oAdd_i, oSub_i, oNeg_i, oLt_i, oLe_i, oGt_i, oGe_i, cInt_i, cInt_b, cLen_l, cLen_t, cList_l, cList_t, cMax2_i, cMin2_i, cAbs_i, isT_int_i, isT_bool_i, isT_bool_b, isT_int_b, isT_tuple_t, isT_list_l, oEq_i, oNe_i, oEq_b, oNe_b, oIsN_n, oNotN_n, oIsN_i, oNotN_i, oIsB_b, oNotB_b, sSeqn_r, sNext_r, sBrk_r, sCnt_r, sRetN_r, sExpr_r, sRet_r, sRetOwn_r, sIf_r, sSet_r, sOwn_r, sAsg_r, gV_r, gT_r, gsNil_r, gsCons_r, sFz_r, sAug_r, addI_r, subI_r, sSeq_r, sArgs_r, itemsOf_l, itemsOf_t, sMut_r, fApp_r, Option.bind_some, Option.map_some, List.length_cons, List.length_nil, Nat.zero_add, Nat.reduceAdd, Nat.reduceLT, Nat.reduceLeDiff, List.set_cons_zero, List.set_cons_succ, if_true, Bool.false_eq_true, if_false, Bool.not_true, Bool.not_false, decide_true, decide_false, reduceCtorEq, a0, a1, s1])]
    rw [seq_nx (sOwn_eq (d := .list ((offV P s).map .int)) (by simp only [eK_r, eV_0, eV_s, eB_0v, eB_0b, eB_0p, eB_0o, eB_s, eP_0v, eP_0b, eP_s, eS_0, eS_s, getS_0, getS_s, aNil_r, aCons_r, eOp_r, eUn_r, eCall_r, eBm_r, eTup_r, eLst_r, eIf_r, eAnd_r, eOr_r, eNot_r, eIs_r, eChain_r, eSl_r, oNo_r, oSo_r, asI_r, bT_r, bV_r, bYes_r, asB_r, truth_b, truth_l, truth_t, truth_n, truth_i, bAnd_r, bOr_r, bNot_r, oAdd_i, oSub_i, oNeg_i, oLt_i, oLe_i, oGt_i, oGe_i, cInt_i, cInt_b, cLen_l, cLen_t, cList_l, cList_t, cMax2_i, cMin2_i, cAbs_i, isT_int_i, isT_bool_i, isT_bool_b, isT_int_b, isT_tuple_t, isT_list_l, oEq_i, oNe_i, oEq_b, oNe_b, oIsN_n, oNotN_n, oIsN_i, oNotN_i, oIsB_b, oNotB_b, sSeqn_r, sNext_r, sBrk_r, sCnt_r, sRetN_r, sExpr_r, sRet_r, sRetOwn_r, sIf_r, sSet_r, sOwn_r, sAsg_r, gV_r, gT_r, gsNil_r, gsCons_r, sFz_r, sAug_r, addI_r, subI_r, sSeq_r, sArgs_r, itemsOf_l, itemsOf_t, sMut_r, fApp_r, Option.bind_some, Option.map_some, List.length_cons, List.length_nil, Nat.zero_add, Nat.reduceAdd, Nat.reduceLT, Nat.reduceLeDiff, List.set_cons_zero, List.set_cons_succ, if_true, Bool.false_eq_true, if_false, Bool.not_true, Bool.not_false, decide_true, decide_false, reduceCtorEq, ho]) (by simp))]
    show sSeqn _ _ [.bor (tS T), .bor (encP p), .bor (.int s), .bor (.int w), .bor (tS FULLs), .val (tS P), .own (.list ((offV P s).map .int)), .un, .un, .un] = _
    rw [seq_nx (ρ' := [.bor (tS T), .bor (encP p), .bor (.int s), .bor (.int w), .bor (tS FULLs), .val (tS P), .own (.list ((offV P s).map .int)), .val (.int (restP P s w)), .un, .un]) (by simp only [eK_r, eV_0, eV_s, eB_0v, eB_0b, eB_0p, eB_0o, eB_s, eP_0v, eP_0b, eP_s, eS_0, eS_s, getS_0, getS_s, aNil_r, aCons_r, eOp_r, eUn_r, eCall_r, eBm_r, eTup_r, eLst_r, eIf_r, eAnd_r, eOr_r, eNot_r, eIs_r, eChain_r, eSl_r, oNo_r, oSo_r, asI_r, bT_r, bV_r, bYes_r, asB_r, truth_b, truth_l, truth_t, truth_n, truth_i, bAnd_r, bOr_r, bNot_r, oAdd_i, oSub_i, oNeg_i, oLt_i, oLe_i, oGt_i, oGe_i, cInt_i, cInt_b, cLen_l, cLen_t, cList_l, cList_t, cMax2_i, cMin2_i, cAbs_i, isT_int_i, isT_bool_i, isT_bool_b, isT_int_b, isT_tuple_t, isT_list_l, oEq_i, oNe_i, oEq_b, oNe_b, oIsN_n, oNotN_n, oIsN_i, oNotN_i, oIsB_b, oNotB_b, sSeqn_r, sNext_r, sBrk_r, sCnt_r, sRetN_r, sExpr_r, sRet_r, sRetOwn_r, sIf_r, sSet_r, sOwn_r, sAsg_r, gV_r, gT_r, gsNil_r, gsCons_r, sFz_r, sAug_r, addI_r, subI_r, sSeq_r, sArgs_r, itemsOf_l, itemsOf_t, sMut_r, fApp_r, Option.bind_some, Option.map_some, List.length_cons, List.length_nil, Nat.zero_add, Nat.reduceAdd, Nat.reduceLT, Nat.reduceLeDiff, List.set_cons_zero, List.set_cons_succ, if_true, Bool.false_eq_true, if_false, Bool.not_true, Bool.not_false, decide_true, decide_false, reduceCtorEq, hlast, hm])]
    exact hr
  cases e with
  | true =>
    refine ⟨0, 0, Int.le_refl _, Int.le_refl _, start _ ?_, fun _ => ⟨rfl, rfl⟩, fun z => by cases z⟩
    rw [seq_nx (ρ' := [.bor (tS T), .bor (encP p), .bor (.int s), .bor (.int w), .bor (tS FULLs), .val (tS P), .own (.list ((offV P s).map .int)), .val (.int (restP P s w)), .un, .un]) (by simp only [eK_r, eV_0, eV_s, eB_0v, eB_0b, eB_0p, eB_0o, eB_s, eP_0v, eP_0b, eP_s, eS_0, eS_s, getS_0, getS_s, aNil_r, aCons_r, eOp_r, eUn_r, eCall_r, eBm_r, eTup_r, eLst_r, eIf_r, eAnd_r, eOr_r, eNot_r, eIs_r, eChain_r, eSl_r, oNo_r, oSo_r, asI_r, bT_r, bV_r, bYes_r, asB_r, truth_b, truth_l, truth_t, truth_n, truth_i, bAnd_r, bOr_r, bNot_r, oAdd_i, oSub_i, oNeg_i, oLt_i, oLe_i, oGt_i, oGe_i, cInt_i, cInt_b, cLen_l, cLen_t, cList_l, cList_t, cMax2_i, cMin2_i, cAbs_i, isT_int_i, isT_bool_i, isT_bool_b, isT_int_b, isT_tuple_t, isT_list_l, oEq_i, oNe_i, oEq_b, oNe_b, oIsN_n, oNotN_n, oIsN_i, oNotN_i, oIsB_b, oNotB_b, sSeqn_r, sNext_r, sBrk_r, sCnt_r, sRetN_r, sExpr_r, sRet_r, sRetOwn_r, sIf_r, sSet_r, sOwn_r, sAsg_r, gV_r, gT_r, gsNil_r, gsCons_r, sFz_r, sAug_r, addI_r, subI_r, sSeq_r, sArgs_r, itemsOf_l, itemsOf_t, sMut_r, fApp_r, Option.bind_some, Option.map_some, List.length_cons, List.length_nil, Nat.zero_add, Nat.reduceAdd, Nat.reduceLT, Nat.reduceLeDiff, List.set_cons_zero, List.set_cons_succ, if_true, Bool.false_eq_true, if_false, Bool.not_true, Bool.not_false, decide_true, decide_false, reduceCtorEq, e0, he])]
    rw [place_end _ _ _ _ _ _ FULLs P asc_full lP s w rfl _]
    have h0 : mvV FULLs P s w = 0 := by
      have n1 : ¬ FULLs = RIGHTs := by decide +kernel
      have n2 : ¬ FULLs = CENTERs := by decide +kernel
      unfold mvV
      rw [if_neg n1, if_neg n2]
    rw [h0, just_zero]
    simp
  | false =>
    refine ⟨sh, mo, j1, j2, start _ ?_, fun z => ?_, fun _ z => j5 z⟩
    · rw [seq_rt (d := .list ((justV P s sh mo).map .int)) (by simp only [eK_r, eV_0, eV_s, eB_0v, eB_0b, eB_0p, eB_0o, eB_s, eP_0v, eP_0b, eP_s, eS_0, eS_s, getS_0, getS_s, aNil_r, aCons_r, eOp_r, eUn_r, eCall_r, eBm_r, eTup_r, eLst_r, eIf_r, eAnd_r, eOr_r, eNot_r, eIs_r, eChain_r, eSl_r, oNo_r, oSo_r, asI_r, bT_r, bV_r, bYes_r, asB_r, truth_b, truth_l, truth_t, truth_n, truth_i, bAnd_r, bOr_r, bNot_r, oAdd_i, oSub_i, oNeg_i, oLt_i, oLe_i, oGt_i, oGe_i, cInt_i, cInt_b, cLen_l, cLen_t, cList_l, cList_t, cMax2_i, cMin2_i, cAbs_i, isT_int_i, isT_bool_i, isT_bool_b, isT_int_b, isT_tuple_t, isT_list_l, oEq_i, oNe_i, oEq_b, oNe_b, oIsN_n, oNotN_n, oIsN_i, oNotN_i, oIsB_b, oNotB_b, sSeqn_r, sNext_r, sBrk_r, sCnt_r, sRetN_r, sExpr_r, sRet_r, sRetOwn_r, sIf_r, sSet_r, sOwn_r, sAsg_r, gV_r, gT_r, gsNil_r, gsCons_r, sFz_r, sAug_r, addI_r, subI_r, sSeq_r, sArgs_r, itemsOf_l, itemsOf_t, sMut_r, fApp_r, Option.bind_some, Option.map_some, List.length_cons, List.length_nil, Nat.zero_add, Nat.reduceAdd, Nat.reduceLT, Nat.reduceLeDiff, List.set_cons_zero, List.set_cons_succ, if_true, Bool.false_eq_true, if_false, Bool.not_true, Bool.not_false, decide_true, decide_false, reduceCtorEq, e0, he, sRetMov_r, eM_s, eM_0, j3])]
    · rcases z with z | z
      · cases z
      · exact j4 z
theorem oNe_ints (l : List Int) : oNe (.list (l.map .int)) (.list (l.map .int)) = some (.bool false) := by
  rw [oNe_is]; simp
/-! ### gains -/
def gnV (sh mo : Int) (j : Nat) : Int := sh + if (j : Int) < mo then 1 else 0
def gnL (sh mo : Int) (n : Nat) : List Int := (List.range n).map (gnV sh mo)
theorem gnL_s (sh mo : Int) (n : Nat) : gnL sh mo (n + 1) = gnL sh mo n ++ [gnV sh mo n] := by
  unfold gnL
  rw [List.range_succ, List.map_append]; rfl
theorem gnL_len (sh mo : Int) (n : Nat) : (gnL sh mo n).length = n := by unfold gnL; simp
theorem gain_at (P : List Nat) (s sh mo : Int) (hmo : 0 ≤ mo) (k : Nat) (h : k < P.length) : jVal P s sh mo (k + 1) - jVal P s sh mo k - uV (P.getD k 0) * s = if P.getD k 0 = 32 then gnV sh mo ((P.take k).count 32) else 0 := by
  have h1 := cS_s P k h
  have h2 := sum_s P s k h
  have hb := cS_b P k
  have hc : cS P k = ((P.take k).count 32 : Nat) := rfl
  unfold jVal gnV
  rw [h2, ← hc]
  by_cases c : P.getD k 0 = 32
  · rw [if_pos c] at h1 ⊢
    rw [h1, Int.add_mul, Int.one_mul]
    generalize cS P k * sh = q
    generalize sumU (P.take k) * s = a
    generalize uV (P.getD k 0) * s = b
    split <;> omega
  · rw [if_neg c, Int.add_zero] at h1
    rw [if_neg c, h1]
    omega
theorem gains_step (P : List Nat) (aP : Asc P) (lP : P.length ≤ 4000) (s sh mo : Int) (L J : List PyData) (hmo : 0 ≤ mo) (k : Nat) (hk : k < P.length) (hL : ∀ i, i ≤ P.length → oIx (.list L) (.int (i : Nat)) = some (.int (jVal P s sh mo i))) (lt : J.length < sizeLine) (x5 : Slot) :
    ∃ y5, L__law_gains_1 [.bor (.list L), .bor (tS P), .val (.int s), .own (.list J), .val (.int (k : Nat)), x5] = some (.nx [.bor (.list L), .bor (tS P), .val (.int s), .own (.list (if P.getD k 0 = 32 then J ++ [.int (gnV sh mo ((P.take k).count 32))] else J)), .val (.int (k : Nat)), y5]) := by
  obtain ⟨a1, a2⟩ := tAt P aP (by omega) k hk
  have e1 := eqC (c := P.getD k 0) (d := 32) a2 (by decide)
  have ad := lawadv_eq (P.getD k 0) a2 s
  have hg := gain_at P s sh mo hmo k hk
  have l1 := hL k (by omega)
  have l2 : oIx (.list L) (.int ((k : Int) + 1)) = some (.int (jVal P s sh mo (k + 1))) := hL (k + 1) (by omega)
  generalize P.getD k 0 = ch at *
  generalize gnV sh mo ((P.take k).count 32) = gn at *
  generalize jVal P s sh mo (k + 1) = u at *
  generalize jVal P s sh mo k = v at *
  generalize uV ch * s = a at *
  refine ⟨.val (.int (u - v - a)), ?_⟩
  unfold L__law_gains_1
  rw [lit_sp]
  rw [seq_nx (ρ' := [.bor (.list L), .bor (tS P), .val (.int s), .own (.list J), .val (.int (k : Nat)), .val (.int (u - v - a))]) (by simp only [eK_r, eV_0, eV_s, eB_0v, eB_0b, eB_0p, eB_0o, eB_s, eP_0v, eP_0b, eP_s, eS_0, eS_s, getS_0, getS_s, aNil_r, aCons_r, eOp_r, eUn_r, eCall_r, eBm_r, eTup_r, eLst_r, eIf_r, eAnd_r, eOr_r, eNot_r, eIs_r, eChain_r, eSl_r, oNo_r, oSo_r, asI_r, bT_r, bV_r, bYes_r, asB_r, truth_b, truth_l, truth_t, truth_n, truth_i, bAnd_r, bOr_r, bNot_r, oAdd_i, oSub_i, oNeg_i, oLt_i, oLe_i, oGt_i, oGe_i, cInt_i, cInt_b, cLen_l, cLen_t, cList_l, cList_t, cMax2_i, cMin2_i, cAbs_i, isT_int_i, isT_bool_i, isT_bool_b, isT_int_b, isT_tuple_t, isT_list_l, oEq_i, oNe_i, oEq_b, oNe_b, oIsN_n, oNotN_n, oIsN_i, oNotN_i, oIsB_b, oNotB_b, sSeqn_r, sNext_r, sBrk_r, sCnt_r, sRetN_r, sExpr_r, sRet_r, sRetOwn_r, sIf_r, sSet_r, sOwn_r, sAsg_r, gV_r, gT_r, gsNil_r, gsCons_r, sFz_r, sAug_r, addI_r, subI_r, sSeq_r, sArgs_r, itemsOf_l, itemsOf_t, sMut_r, fApp_r, Option.bind_some, Option.map_some, List.length_cons, List.length_nil, Nat.zero_add, Nat.reduceAdd, Nat.reduceLT, Nat.reduceLeDiff, List.set_cons_zero, List.set_cons_succ, if_true, Bool.false_eq_true, if_false, Bool.not_true, Bool.not_false, decide_true, decide_false, reduceCtorEq, a1, ad, l1, l2])]
  by_cases c : ch = 32
  · rw [if_pos c] at hg ⊢
    rw [decide_eq_true c] at e1
    rw [hg]
    simp only [eK_r, eV_0, eV_s, eB_0v, eB_0b, eB_0p, eB_0o, eB_s, eP_0v, eP_0b, eP_s, eS_0, eS_s, getS_0, getS_s, aNil_r, aCons_r, eOp_r, eUn_r, eCall_r, eBm_r, eTup_r, eLst_r, eIf_r, eAnd_r, eOr_r, eNot_r, eIs_r, eChain_r, eSl_r, oNo_r, oSo_r, asI_r, bT_r, bV_r, bYes_r, asB_r, truth_b, truth_l, truth_t, truth_n, truth_i, bAnd_r, bOr_r, bNot_r, oAdd_i, oSub_i, oNeg_i, oLt_i, oLe_i, oGt_i, oGe_i, cInt_i, cInt_b, cLen_l, cLen_t, cList_l, cList_t, cMax2_i, cMin2_i, cAbs_i, isT_int_i, isT_bool_i, isT_bool_b, isT_int_b, isT_tuple_t, isT_list_l, oEq_i, oNe_i, oEq_b, oNe_b, oIsN_n, oNotN_n, oIsN_i, oNotN_i, oIsB_b, oNotB_b, sSeqn_r, sNext_r, sBrk_r, sCnt_r, sRetN_r, sExpr_r, sRet_r, sRetOwn_r, sIf_r, sSet_r, sOwn_r, sAsg_r, gV_r, gT_r, gsNil_r, gsCons_r, sFz_r, sAug_r, addI_r, subI_r, sSeq_r, sArgs_r, itemsOf_l, itemsOf_t, sMut_r, fApp_r, Option.bind_some, Option.map_some, List.length_cons, List.length_nil, Nat.zero_add, Nat.reduceAdd, Nat.reduceLT, Nat.reduceLeDiff, List.set_cons_zero, List.set_cons_succ, if_true, Bool.false_eq_true, if_false, Bool.not_true, Bool.not_false, decide_true, decide_false, reduceCtorEq, a1, e1, lt]
  · rw [if_neg c] at hg ⊢
    rw [decide_eq_false c] at e1
    rw [hg]
    simp only [eK_r, eV_0, eV_s, eB_0v, eB_0b, eB_0p, eB_0o, eB_s, eP_0v, eP_0b, eP_s, eS_0, eS_s, getS_0, getS_s, aNil_r, aCons_r, eOp_r, eUn_r, eCall_r, eBm_r, eTup_r, eLst_r, eIf_r, eAnd_r, eOr_r, eNot_r, eIs_r, eChain_r, eSl_r, oNo_r, oSo_r, asI_r, bT_r, bV_r, bYes_r, asB_r, truth_b, truth_l, truth_t, truth_n, truth_i, bAnd_r, bOr_r, bNot_r, oAdd_i, oSub_i, oNeg_i, oLt_i, oLe_i, oGt_i, oGe_i, cInt_i, cInt_b, cLen_l, cLen_t, cList_l, cList_t, cMax2_i, cMin2_i, cAbs_i, isT_int_i, isT_bool_i, isT_bool_b, isT_int_b, isT_tuple_t, isT_list_l, oEq_i, oNe_i, oEq_b, oNe_b, oIsN_n, oNotN_n, oIsN_i, oNotN_i, oIsB_b, oNotB_b, sSeqn_r, sNext_r, sBrk_r, sCnt_r, sRetN_r, sExpr_r, sRet_r, sRetOwn_r, sIf_r, sSet_r, sOwn_r, sAsg_r, gV_r, gT_r, gsNil_r, gsCons_r, sFz_r, sAug_r, addI_r, subI_r, sSeq_r, sArgs_r, itemsOf_l, itemsOf_t, sMut_r, fApp_r, Option.bind_some, Option.map_some, List.length_cons, List.length_nil, Nat.zero_add, Nat.reduceAdd, Nat.reduceLT, Nat.reduceLeDiff, List.set_cons_zero, List.set_cons_succ, if_true, Bool.false_eq_true, if_false, Bool.not_true, Bool.not_false, decide_true, decide_false, reduceCtorEq, a1, e1]
theorem gainsGo (P : List Nat) (aP : Asc P) (lP : P.length ≤ 4000) (s sh mo : Int) (L : List PyData) (hmo : 0 ≤ mo) (hL : ∀ i, i ≤ P.length → oIx (.list L) (.int (i : Nat)) = some (.int (jVal P s sh mo i))) : ∀ n : Nat, n ≤ P.length → ∀ x4 x5, ∃ y4 y5, forGo (gV 4) L__law_gains_1 (rangeD ((P.length - n : Nat) : Int) n)
    [.bor (.list L), .bor (tS P), .val (.int s), .own (.list ((gnL sh mo ((P.take (P.length - n)).count 32)).map .int)), x4, x5] = some (.nx [.bor (.list L), .bor (tS P), .val (.int s), .own (.list ((gnL sh mo (P.count 32)).map .int)), y4, y5]) := by
  intro n
  induction n with
  | zero =>
    intro _ x4 x5
    rw [Nat.sub_zero, List.take_length]
    exact ⟨x4, x5, rfl⟩
  | succ n ihn =>
    intro hn x4 x5
    rw [rangeD_down P.length n hn]
    generalize hk : P.length - (n + 1) = k at *
    have hk1 : P.length - n = k + 1 := by omega
    have hkP : k < P.length := by omega
    have hcl := List.count_le_length (a := 32) (l := P.take k)
    have hcl2 := List.length_take_le' k P
    have lt : ((gnL sh mo ((P.take k).count 32)).map PyData.int).length < sizeLine := by rw [List.length_map, gnL_len, sizeLine_eq]; omega
    obtain ⟨y5, st⟩ := gains_step P aP lP s sh mo L ((gnL sh mo ((P.take k).count 32)).map .int) hmo k hkP hL lt x5
    have hs : (if P.getD k 0 = 32 then (gnL sh mo ((P.take k).count 32)).map PyData.int ++ [.int (gnV sh mo ((P.take k).count 32))] else (gnL sh mo ((P.take k).count 32)).map PyData.int) = (gnL sh mo ((P.take (k + 1)).count 32)).map .int := by
      have e : (P.take (k + 1)).count 32 = (P.take k).count 32 + if P.getD k 0 = 32 then 1 else 0 := by
        have := cS_s P k hkP
        unfold cS at this
        split at this <;> split <;> omega
      by_cases c : P.getD k 0 = 32
      · rw [if_pos c] at e ⊢
        rw [e, gnL_s, List.map_append]; rfl
      · rw [if_neg c] at e ⊢
        rw [e]; rfl
    rw [hs] at st
    obtain ⟨y4, z5, ih⟩ := ihn (by omega) (.val (.int (k : Nat))) y5
    rw [hk1] at ih ⊢
    refine ⟨y4, z5, ?_⟩
    rw [forGo, show gV 4 (.int (k : Nat)) [.bor (.list L), .bor (tS P), .val (.int s), .own (.list ((gnL sh mo ((P.take k).count 32)).map .int)), x4, x5] = some [.bor (.list L), .bor (tS P), .val (.int s), .own (.list ((gnL sh mo ((P.take k).count 32)).map .int)), .val (.int (k : Nat)), x5] from rfl, Option.bind_some, st]
    exact ih
theorem gains_eq (P : List Nat) (aP : Asc P) (lP : P.length ≤ 4000) (s sh mo : Int) (hmo : 0 ≤ mo) : F__law_gains [.list ((justV P s sh mo).map .int), tS P, .int s] = some (.list ((gnL sh mo (P.count 32)).map .int)) := by
  refine box_rt rfl ?_
  have hL := just_ix P s sh mo
  generalize (justV P s sh mo).map PyData.int = L at *
  show B__law_gains [.bor (.list L), .bor (tS P), .val (.int s), .un, .un, .un] = _
  obtain ⟨y4, y5, e⟩ := gainsGo P aP lP s sh mo L hmo hL P.length (Nat.le_refl _) .un .un
  rw [Nat.sub_self, List.take_zero] at e
  have e : forGo (gV 4) L__law_gains_1 (rangeD 0 P.length) [.bor (.list L), .bor (tS P), .val (.int s), .own (.list []), .un, .un] = _ := e
  have lt := tLen P (by omega)
  have le0 : 0 ≤ sizeLine := Nat.zero_le _
  generalize (gnL sh mo (P.count 32)).map PyData.int = G at *
  unfold B__law_gains
  rw [seq_nx (ρ' := [.bor (.list L), .bor (tS P), .val (.int s), .own (.list []), .un, .un]) (by simp only [eK_r, eV_0, eV_s, eB_0v, eB_0b, eB_0p, eB_0o, eB_s, eP_0v, eP_0b, eP_s, eS_0, eS_s, getS_0, getS_s, aNil_r, aCons_r, eOp_r, eUn_r, eCall_r, eBm_r, eTup_r, eLst_r, eIf_r, eAnd_r, eOr_r, eNot_r, eIs_r, eChain_r, eSl_r, oNo_r, oSo_r, asI_r, bT_r, bV_r, bYes_r, asB_r, truth_b, truth_l, truth_t, truth_n, truth_i, bAnd_r, bOr_r, bNot_r, oAdd_i, oSub_i, oNeg_i, oLt_i, oLe_i, oGt_i, oGe_i, cInt_i, cInt_b, cLen_l, cLen_t, cList_l, cList_t, cMax2_i, cMin2_i, cAbs_i, isT_int_i, isT_bool_i, isT_bool_b, isT_int_b, isT_tuple_t, isT_list_l, oEq_i, oNe_i, oEq_b, oNe_b, oIsN_n, oNotN_n, oIsN_i, oNotN_i, oIsB_b, oNotB_b, sSeqn_r, sNext_r, sBrk_r, sCnt_r, sRetN_r, sExpr_r, sRet_r, sRetOwn_r, sIf_r, sSet_r, sOwn_r, sAsg_r, gV_r, gT_r, gsNil_r, gsCons_r, sFz_r, sAug_r, addI_r, subI_r, sSeq_r, sArgs_r, itemsOf_l, itemsOf_t, sMut_r, fApp_r, Option.bind_some, Option.map_some, List.length_cons, List.length_nil, Nat.zero_add, Nat.reduceAdd, Nat.reduceLT, Nat.reduceLeDiff, List.set_cons_zero, List.set_cons_succ, if_true, Bool.false_eq_true, if_false, Bool.not_true, Bool.not_false, decide_true, decide_false, reduceCtorEq, le0])]
  rw [seq_nx ((sFor_eq (sArgs_eq (ds := [.int (P.length : Nat)]) (by simp only [eK_r, eV_0, eV_s, eB_0v, eB_0b, eB_0p, eB_0o, eB_s, eP_0v, eP_0b, eP_s, eS_0, eS_s, getS_0, getS_s, aNil_r, aCons_r, eOp_r, eUn_r, eCall_r, eBm_r, eTup_r, eLst_r, eIf_r, eAnd_r, eOr_r, eNot_r, eIs_r, eChain_r, eSl_r, oNo_r, oSo_r, asI_r, bT_r, bV_r, bYes_r, asB_r, truth_b, truth_l, truth_t, truth_n, truth_i, bAnd_r, bOr_r, bNot_r, oAdd_i, oSub_i, oNeg_i, oLt_i, oLe_i, oGt_i, oGe_i, cInt_i, cInt_b, cLen_l, cLen_t, cList_l, cList_t, cMax2_i, cMin2_i, cAbs_i, isT_int_i, isT_bool_i, isT_bool_b, isT_int_b, isT_tuple_t, isT_list_l, oEq_i, oNe_i, oEq_b, oNe_b, oIsN_n, oNotN_n, oIsN_i, oNotN_i, oIsB_b, oNotB_b, sSeqn_r, sNext_r, sBrk_r, sCnt_r, sRetN_r, sExpr_r, sRet_r, sRetOwn_r, sIf_r, sSet_r, sOwn_r, sAsg_r, gV_r, gT_r, gsNil_r, gsCons_r, sFz_r, sAug_r, addI_r, subI_r, sSeq_r, sArgs_r, itemsOf_l, itemsOf_t, sMut_r, fApp_r, Option.bind_some, Option.map_some, List.length_cons, List.length_nil, Nat.zero_add, Nat.reduceAdd, Nat.reduceLT, Nat.reduceLeDiff, List.set_cons_zero, List.set_cons_succ, if_true, Bool.false_eq_true, if_false, Bool.not_true, Bool.not_false, decide_true, decide_false, reduceCtorEq, lt]) (rng1_n _ (by omega)))).trans e)]
  simp only [eK_r, eV_0, eV_s, eB_0v, eB_0b, eB_0p, eB_0o, eB_s, eP_0v, eP_0b, eP_s, eS_0, eS_s, getS_0, getS_s, aNil_r, aCons_r, eOp_r, eUn_r, eCall_r, eBm_r, eTup_r, eLst_r, eIf_r, eAnd_r, eOr_r, eNot_r, eIs_r, eChain_r, eSl_r, oNo_r, oSo_r, asI_r, bT_r, bV_r, bYes_r, asB_r, truth_b, truth_l, truth_t, truth_n, truth_i, bAnd_r, bOr_r, bNot_r, oAdd_i, oSub_i, oNeg_i, oLt_i, oLe_i, oGt_i, oGe_i, cInt_i, cInt_b, cLen_l, cLen_t, cList_l, cList_t, cMax2_i, cMin2_i, cAbs_i, isT_int_i, isT_bool_i, isT_bool_b, isT_int_b, isT_tuple_t, isT_list_l, oEq_i, oNe_i, oEq_b, oNe_b, oIsN_n, oNotN_n, oIsN_i, oNotN_i, oIsB_b, oNotB_b, sSeqn_r, sNext_r, sBrk_r, sCnt_r, sRetN_r, sExpr_r, sRet_r, sRetOwn_r, sIf_r, sSet_r, sOwn_r, sAsg_r, gV_r, gT_r, gsNil_r, gsCons_r, sFz_r, sAug_r, addI_r, subI_r, sSeq_r, sArgs_r, itemsOf_l, itemsOf_t, sMut_r, fApp_r, Option.bind_some, Option.map_some, List.length_cons, List.length_nil, Nat.zero_add, Nat.reduceAdd, Nat.reduceLT, Nat.reduceLeDiff, List.set_cons_zero, List.set_cons_succ, if_true, Bool.false_eq_true, if_false, Bool.not_true, Bool.not_false, decide_true, decide_false, reduceCtorEq]
theorem gn_mono (sh mo : Int) (i j : Nat) (h : i ≤ j) : gnV sh mo j ≤ gnV sh mo i ∧ gnV sh mo i ≤ gnV sh mo j + 1 ∧ sh ≤ gnV sh mo i := by
  unfold gnV
  split <;> split <;> omega
theorem evenGo (sh mo : Int) (n : Nat) (L : List PyData) (hL : ∀ i, i < n → oIx (.list L) (.int (i : Nat)) = some (.int (gnV sh mo i))) : ∀ m : Nat, ∀ a, 1 ≤ a → a + m = n → ∀ x1, ∃ y1, forGo (gV 1) L__law_is_even_1 (rangeD (a : Nat) m) [.bor (.list L), x1] = some (.nx [.bor (.list L), y1]) := by
  intro m
  induction m with
  | zero => intro a _ _ x1; exact ⟨x1, rfl⟩
  | succ m ih =>
    intro a h1 h2 x1
    obtain ⟨y1, e⟩ := ih (a + 1) (by omega) (by omega) (.val (.int (a : Nat)))
    refine ⟨y1, ?_⟩
    have l1 := hL a (by omega)
    have l2 := hL (a - 1) (by omega)
    have hm := (gn_mono sh mo (a - 1) a (by omega)).1
    have e1 : ((a : Int) - 1) = ((a - 1 : Nat) : Int) := by omega
    rw [← e1] at l2
    generalize gnV sh mo a = u at *
    generalize gnV sh mo (a - 1) = v at *
    have z : (v < u) = False := by simp; omega
    have st : L__law_is_even_1 [.bor (.list L), .val (.int (a : Nat))] = some (.nx [.bor (.list L), .val (.int (a : Nat))]) := by
      unfold L__law_is_even_1
      simp only [eK_r, eV_0, eV_s, eB_0v, eB_0b, eB_0p, eB_0o, eB_s, eP_0v, eP_0b, eP_s, eS_0, eS_s, getS_0, getS_s, aNil_r, aCons_r, eOp_r, eUn_r, eCall_r, eBm_r, eTup_r, eLst_r, eIf_r, eAnd_r, eOr_r, eNot_r, eIs_r, eChain_r, eSl_r, oNo_r, oSo_r, asI_r, bT_r, bV_r, bYes_r, asB_r, truth_b, truth_l, truth_t, truth_n, truth_i, bAnd_r, bOr_r, bNot_r, oAdd_i, oSub_i, oNeg_i, oLt_i, oLe_i, oGt_i, oGe_i, cInt_i, cInt_b, cLen_l, cLen_t, cList_l, cList_t, cMax2_i, cMin2_i, cAbs_i, isT_int_i, isT_bool_i, isT_bool_b, isT_int_b, isT_tuple_t, isT_list_l, oEq_i, oNe_i, oEq_b, oNe_b, oIsN_n, oNotN_n, oIsN_i, oNotN_i, oIsB_b, oNotB_b, sSeqn_r, sNext_r, sBrk_r, sCnt_r, sRetN_r, sExpr_r, sRet_r, sRetOwn_r, sIf_r, sSet_r, sOwn_r, sAsg_r, gV_r, gT_r, gsNil_r, gsCons_r, sFz_r, sAug_r, addI_r, subI_r, sSeq_r, sArgs_r, itemsOf_l, itemsOf_t, sMut_r, fApp_r, Option.bind_some, Option.map_some, List.length_cons, List.length_nil, Nat.zero_add, Nat.reduceAdd, Nat.reduceLT, Nat.reduceLeDiff, List.set_cons_zero, List.set_cons_succ, if_true, Bool.false_eq_true, if_false, Bool.not_true, Bool.not_false, decide_true, decide_false, reduceCtorEq, l1, l2, z]
    rw [rangeD_cons, forGo, show gV 1 (.int (a : Nat)) [.bor (.list L), x1] = some [.bor (.list L), .val (.int (a : Nat))] from rfl, Option.bind_some, st]
    exact e
theorem even_eq (sh mo : Int) (h0 : 0 ≤ sh) (n : Nat) (hn : n ≤ 4000) : F__law_is_even [.list ((gnL sh mo n).map .int)] = some (.bool true) := by
  refine box_rt rfl ?_
  have hL : ∀ i, i < n → oIx (.list ((gnL sh mo n).map .int)) (.int (i : Nat)) = some (.int (gnV sh mo i)) := fun i hi => by
    rw [oIx_l, atI_pos (by omega), Int.toNat_natCast, List.getElem?_map]
    unfold gnL
    rw [List.getElem?_map, List.getElem?_range hi]; rfl
  have hlen : ((gnL sh mo n).map PyData.int).length = n := by rw [List.length_map, gnL_len]
  have hlast : 0 < n → oIx (.list ((gnL sh mo n).map .int)) (.int (-1)) = some (.int (gnV sh mo (n - 1))) := fun hp => by
    obtain ⟨m, rfl⟩ : ∃ m, n = m + 1 := ⟨n - 1, by omega⟩
    rw [gnL_s, List.map_append]
    exact atI_last _ _
  generalize (gnL sh mo n).map PyData.int = L at *
  show B__law_is_even [.bor (.list L), .un] = _
  have er : rng2 [.int 1, .int (n : Nat)] = some (rangeD 1 (n - 1)) := by
    rw [rng2_r (by omega) (by omega) (by omega) (by omega)]
    congr 2; omega
  have hf : sFor (sArgs rng2 (aCons (eK (.int 1)) (aCons (eCall cLen (aCons (eB 0) aNil)) aNil))) (gV 1) L__law_is_even_1 [.bor (.list L), .un] = forGo (gV 1) L__law_is_even_1 (rangeD 1 (n - 1)) [.bor (.list L), .un] := sFor_eq (sArgs_eq (ds := [.int 1, .int (n : Nat)]) (by simp only [eK_r, eV_0, eV_s, eB_0v, eB_0b, eB_0p, eB_0o, eB_s, eP_0v, eP_0b, eP_s, eS_0, eS_s, getS_0, getS_s, aNil_r, aCons_r, eOp_r, eUn_r, eCall_r, eBm_r, eTup_r, eLst_r, eIf_r, eAnd_r, eOr_r, eNot_r, eIs_r, eChain_r, eSl_r, oNo_r, oSo_r, asI_r, bT_r, bV_r, bYes_r, asB_r, truth_b, truth_l, truth_t, truth_n, truth_i, bAnd_r, bOr_r, bNot_r, oAdd_i, oSub_i, oNeg_i, oLt_i, oLe_i, oGt_i, oGe_i, cInt_i, cInt_b, cLen_l, cLen_t, cList_l, cList_t, cMax2_i, cMin2_i, cAbs_i, isT_int_i, isT_bool_i, isT_bool_b, isT_int_b, isT_tuple_t, isT_list_l, oEq_i, oNe_i, oEq_b, oNe_b, oIsN_n, oNotN_n, oIsN_i, oNotN_i, oIsB_b, oNotB_b, sSeqn_r, sNext_r, sBrk_r, sCnt_r, sRetN_r, sExpr_r, sRet_r, sRetOwn_r, sIf_r, sSet_r, sOwn_r, sAsg_r, gV_r, gT_r, gsNil_r, gsCons_r, sFz_r, sAug_r, addI_r, subI_r, sSeq_r, sArgs_r, itemsOf_l, itemsOf_t, sMut_r, fApp_r, Option.bind_some, Option.map_some, List.length_cons, List.length_nil, Nat.zero_add, Nat.reduceAdd, Nat.reduceLT, Nat.reduceLeDiff, List.set_cons_zero, List.set_cons_succ, if_true, Bool.false_eq_true, if_false, Bool.not_true, Bool.not_false, decide_true, decide_false, reduceCtorEq, hlen]) er)
  unfold B__law_is_even
  by_cases hz : n = 0
  · subst hz
    rw [seq_nx (hf.trans (show forGo (gV 1) L__law_is_even_1 (rangeD 1 (0 - 1)) [.bor (.list L), .un] = some (Out.nx [.bor (.list L), .un]) from rfl))]
    simp only [eK_r, eV_0, eV_s, eB_0v, eB_0b, eB_0p, eB_0o, eB_s, eP_0v, eP_0b, eP_s, eS_0, eS_s, getS_0, getS_s, aNil_r, aCons_r, eOp_r, eUn_r, eCall_r, eBm_r, eTup_r, eLst_r, eIf_r, eAnd_r, eOr_r, eNot_r, eIs_r, eChain_r, eSl_r, oNo_r, oSo_r, asI_r, bT_r, bV_r, bYes_r, asB_r, truth_b, truth_l, truth_t, truth_n, truth_i, bAnd_r, bOr_r, bNot_r, oAdd_i, oSub_i, oNeg_i, oLt_i, oLe_i, oGt_i, oGe_i, cInt_i, cInt_b, cLen_l, cLen_t, cList_l, cList_t, cMax2_i, cMin2_i, cAbs_i, isT_int_i, isT_bool_i, isT_bool_b, isT_int_b, isT_tuple_t, isT_list_l, oEq_i, oNe_i, oEq_b, oNe_b, oIsN_n, oNotN_n, oIsN_i, oNotN_i, oIsB_b, oNotB_b, sSeqn_r, sNext_r, sBrk_r, sCnt_r, sRetN_r, sExpr_r, sRet_r, sRetOwn_r, sIf_r, sSet_r, sOwn_r, sAsg_r, gV_r, gT_r, gsNil_r, gsCons_r, sFz_r, sAug_r, addI_r, subI_r, sSeq_r, sArgs_r, itemsOf_l, itemsOf_t, sMut_r, fApp_r, Option.bind_some, Option.map_some, List.length_cons, List.length_nil, Nat.zero_add, Nat.reduceAdd, Nat.reduceLT, Nat.reduceLeDiff, List.set_cons_zero, List.set_cons_succ, if_true, Bool.false_eq_true, if_false, Bool.not_true, Bool.not_false, decide_true, decide_false, reduceCtorEq, hlen, show (((0 : Nat) : Int) = 0) = True by simp]
  · obtain ⟨y1, e⟩ := evenGo sh mo n L hL (n - 1) 1 (Nat.le_refl _) (by omega) .un
    have e : forGo (gV 1) L__law_is_even_1 (rangeD 1 (n - 1)) [.bor (.list L), .un] = some (.nx [.bor (.list L), y1]) := e
    rw [seq_nx (hf.trans e)]
    have l0 : oIx (.list L) (.int 0) = some (.int (gnV sh mo 0)) := hL 0 (by omega)
    have l1 := hlast (by omega)
    have m1 := gn_mono sh mo 0 (n - 1) (by omega)
    have m2 := gn_mono sh mo (n - 1) (n - 1) (Nat.le_refl _)
    generalize gnV sh mo 0 = u at *
    generalize gnV sh mo (n - 1) = v at *
    have z1 : ((n : Int) = 0) = False := by simp; omega
    have z2 : ((0 : Int) ≤ v) = True := by simp; omega
    have z3 : (u ≤ v + 1) = True := by simp; omega
    simp only [eK_r, eV_0, eV_s, eB_0v, eB_0b, eB_0p, eB_0o, eB_s, eP_0v, eP_0b, eP_s, eS_0, eS_s, getS_0, getS_s, aNil_r, aCons_r, eOp_r, eUn_r, eCall_r, eBm_r, eTup_r, eLst_r, eIf_r, eAnd_r, eOr_r, eNot_r, eIs_r, eChain_r, eSl_r, oNo_r, oSo_r, asI_r, bT_r, bV_r, bYes_r, asB_r, truth_b, truth_l, truth_t, truth_n, truth_i, bAnd_r, bOr_r, bNot_r, oAdd_i, oSub_i, oNeg_i, oLt_i, oLe_i, oGt_i, oGe_i, cInt_i, cInt_b, cLen_l, cLen_t, cList_l, cList_t, cMax2_i, cMin2_i, cAbs_i, isT_int_i, isT_bool_i, isT_bool_b, isT_int_b, isT_tuple_t, isT_list_l, oEq_i, oNe_i, oEq_b, oNe_b, oIsN_n, oNotN_n, oIsN_i, oNotN_i, oIsB_b, oNotB_b, sSeqn_r, sNext_r, sBrk_r, sCnt_r, sRetN_r, sExpr_r, sRet_r, sRetOwn_r, sIf_r, sSet_r, sOwn_r, sAsg_r, gV_r, gT_r, gsNil_r, gsCons_r, sFz_r, sAug_r, addI_r, subI_r, sSeq_r, sArgs_r, itemsOf_l, itemsOf_t, sMut_r, fApp_r, Option.bind_some, Option.map_some, List.length_cons, List.length_nil, Nat.zero_add, Nat.reduceAdd, Nat.reduceLT, Nat.reduceLeDiff, List.set_cons_zero, List.set_cons_succ, if_true, Bool.false_eq_true, if_false, Bool.not_true, Bool.not_false, decide_true, decide_false, reduceCtorEq, hlen, z1, l0, l1, z2, z3]
/-! ### a line of the law -/
theorem intsGo (ρ : Slot → Rho) (hρ : ∀ i x, gV 9 (.int i) (ρ x) = some (ρ (.val (.int i)))) (hst : ∀ i, L_law_1 (ρ (.val (.int i))) = some (.nx (ρ (.val (.int i))))) : ∀ (l : List Int) (x : Slot), ∃ y, forGo (gV 9) L_law_1 (l.map .int) (ρ x) = some (.nx (ρ y))
  | [], x => ⟨x, rfl⟩
  | i :: l, x => by
    obtain ⟨y, e⟩ := intsGo ρ hρ hst l (.val (.int i))
    refine ⟨y, ?_⟩
    rw [List.map_cons, forGo, hρ, Option.bind_some, hst]
    exact e
abbrev R16 (S : PyData) (T : List Nat) (N s w : Int) (L : PyData) (x6 x7 x8 x9 x10 x11 x12 : Slot) : Rho := [.scr S, .val (tS T), .val (.int N), .val (.int s), .val (.int w), .val L, x6, x7, x8, x9, x10, x11, x12]
theorem law_step (S : PyData) (T : List Nat) (aT : Asc T) (lT : T.length ≤ 4000) (N s w : Int) (hw : w ≤ 1000000000) (hs : 0 ≤ s) (L : PyData) (p : Nat × Nat) (h1 : p.1 ≤ p.2) (h2 : p.2 ≤ T.length) (x7 x8 x9 x10 x11 x12 : Slot) :
    ∃ y7 y8 y9 y10 y11 y12, L_law_2 (R16 S T N s w L (.val (encP p)) x7 x8 x9 x10 x11 x12) = some (.nx (R16 S T N s w L (.val (encP p)) y7 y8 y9 y10 y11 y12)) := by
  have a0 : oIx (encP p) (.int 0) = some (.int (p.1 : Nat)) := rfl
  have a1 : oIx (encP p) (.int 1) = some (.int (p.2 : Nat)) := rfl
  have s1 := tSl T (some (p.1 : Nat)) (some (p.2 : Nat)) (by omega)
  have lP : (cutG T (some (p.1 : Nat)) (some (p.2 : Nat))).length ≤ 4000 := by
    have := cutG_len T (i := (p.1 : Int)) (j := (p.2 : Int)) (by omega) (by omega)
    omega
  have aP := aT.cut (some (p.1 : Nat)) (some (p.2 : Nat))
  obtain ⟨sh, mo, j1, j2, j3, j4, j5⟩ := placeF_eq T aT lT p h1 h2 s w hw hs
  generalize cutG T (some (p.1 : Nat)) (some (p.2 : Nat)) = P at *
  have hr := rest_eq T (by omega) p.2 h2
  have hb := blank_eq (restV T p.2) (aT.rest p.2)
  have ex := ext_eq P lP aP s
  have ga := gains_eq P aP lP s sh mo j2
  have hcl := List.count_le_length (a := 32) (l := P)
  have ev := even_eq sh mo j1 (P.count 32) (by omega)
  have lt := tLen P (by omega)
  have jl := just_last P s sh mo
  have j0 : oIx (.list ((justV P s sh mo).map .int)) (.int 0) = some (.int 0) := by
    have := just_ix P s sh mo 0 (Nat.zero_le _)
    have e : jVal P s sh mo 0 = 0 := by unfold jVal cS sumU; simp; omega
    rw [e] at this; exact this
  have hlen : ((justV P s sh mo).map PyData.int).length = P.length + 1 := by rw [List.length_map, just_len]
  have hin := tIn 32 P
  have ne1 := oNe_ints (justV P s sh mo)
  have hsu := sumU_b P
  have hmul := Int.mul_nonneg hsu.1 hs
  -- the last place
  have hv : jVal P s sh mo P.length = if blk (restV T p.2) = false ∧ 32 ∈ P then max (sumU P * s) w else sumU P * s := by
    unfold jVal cS
    rw [List.take_length]
    by_cases c : blk (restV T p.2) = false ∧ 32 ∈ P
    · rw [if_pos c]
      obtain ⟨k1, k2⟩ := j5 c.1 c.2
      rw [Int.min_eq_right (by omega)]
      unfold restP at k2
      generalize ((P.count 32 : Nat) : Int) * sh = q at *
      generalize sumU P * s = E at *
      omega
    · rw [if_neg c]
      have : sh = 0 ∧ mo = 0 := by
        apply j4
        by_cases d : blk (restV T p.2) = true
        · exact .inl d
        · exact .inr fun z => c ⟨by simpa using d, z⟩
      rw [this.1, this.2]
      simp; omega
  have hin9 := intsGo (fun x9 => R16 S T N s w L (.val (encP p)) (.val (tS P)) (.pin (.list ((justV P s sh mo).map .int))) x9 x10 x11 x12) (fun _ _ => rfl) (fun i => by
    have hi : F__law_is_integer [.int i] = some (.bool true) := is_integer_i _
    unfold L_law_1
    simp only [eK_r, eV_0, eV_s, eB_0v, eB_0b, eB_0p, eB_0o, eB_s, eP_0v, eP_0b, eP_s, eS_0, eS_s, getS_0, getS_s, aNil_r, aCons_r, eOp_r, eUn_r, eCall_r, eBm_r, eTup_r, eLst_r, eIf_r, eAnd_r, eOr_r, eNot_r, eIs_r, eChain_r, eSl_r, oNo_r, oSo_r, asI_r, bT_r, bV_r, bYes_r, asB_r, truth_b, truth_l, truth_t, truth_n, truth_i, bAnd_r, bOr_r, bNot_r, oAdd_i, oSub_i, oNeg_i, oLt_i, oLe_i, oGt_i, oGe_i, cInt_i, cInt_b, cLen_l, cLen_t, cList_l, cList_t, cMax2_i, cMin2_i, cAbs_i, isT_int_i, isT_bool_i, isT_bool_b, isT_int_b, isT_tuple_t, isT_list_l, oEq_i, oNe_i, oEq_b, oNe_b, oIsN_n, oNotN_n, oIsN_i, oNotN_i, oIsB_b, oNotB_b, sSeqn_r, sNext_r, sBrk_r, sCnt_r, sRetN_r, sExpr_r, sRet_r, sRetOwn_r, sIf_r, sSet_r, sOwn_r, sAsg_r, gV_r, gT_r, gsNil_r, gsCons_r, sFz_r, sAug_r, addI_r, subI_r, sSeq_r, sArgs_r, itemsOf_l, itemsOf_t, sMut_r, fApp_r, Option.bind_some, Option.map_some, List.length_cons, List.length_nil, Nat.zero_add, Nat.reduceAdd, Nat.reduceLT, Nat.reduceLeDiff, List.set_cons_zero, List.set_cons_succ, if_true, Bool.false_eq_true, if_false, Bool.not_true, Bool.not_false, decide_true, decide_false, reduceCtorEq, hi]) (justV P s sh mo) x9
  obtain ⟨y9, hin9⟩ := hin9
  have hL1 : ∃ A r, (justV P s sh mo).map PyData.int = A :: r := by
    cases e : (justV P s sh mo).map PyData.int with
    | nil => rw [e] at hlen; simp at hlen
    | cons A r => exact ⟨A, r, rfl⟩
  have hc : (((P.length + 1 : Nat) : Int) = (P.length : Int) + 1) = True := by simp
  generalize hG : (gnL sh mo (P.count 32)).map PyData.int = G at *
  generalize hM : (justV P s sh mo).map PyData.int = M at *
  obtain ⟨A, r, rfl⟩ := hL1
  generalize jVal P s sh mo P.length = v at *
  generalize sumU P * s = E at *
  generalize blk (restV T p.2) = bb at *
  refine ⟨.val (tS P), .own (.list (.int (-7) :: r)), y9, .val (.list G), .val (.int v), .val (.list (A :: r)), ?_⟩
  unfold L_law_2
  rw [lit_full, lit_sp]
  rw [seq_nx (ρ' := R16 S T N s w L (.val (encP p)) (.val (tS P)) x8 x9 x10 x11 x12) (by simp only [eK_r, eV_0, eV_s, eB_0v, eB_0b, eB_0p, eB_0o, eB_s, eP_0v, eP_0b, eP_s, eS_0, eS_s, getS_0, getS_s, aNil_r, aCons_r, eOp_r, eUn_r, eCall_r, eBm_r, eTup_r, eLst_r, eIf_r, eAnd_r, eOr_r, eNot_r, eIs_r, eChain_r, eSl_r, oNo_r, oSo_r, asI_r, bT_r, bV_r, bYes_r, asB_r, truth_b, truth_l, truth_t, truth_n, truth_i, bAnd_r, bOr_r, bNot_r, oAdd_i, oSub_i, oNeg_i, oLt_i, oLe_i, oGt_i, oGe_i, cInt_i, cInt_b, cLen_l, cLen_t, cList_l, cList_t, cMax2_i, cMin2_i, cAbs_i, isT_int_i, isT_bool_i, isT_bool_b, isT_int_b, isT_tuple_t, isT_list_l, oEq_i, oNe_i, oEq_b, oNe_b, oIsN_n, oNotN_n, oIsN_i, oNotN_i, oIsB_b, oNotB_b, sSeqn_r, sNext_r, sBrk_r, sCnt_r, sRetN_r, sExpr_r, sRet_r, sRetOwn_r, sIf_r, sSet_r, sOwn_r, sAsg_r, gV_r, gT_r, gsNil_r, gsCons_r, sFz_r, sAug_r, addI_r, subI_r, sSeq_r, sArgs_r, itemsOf_l, itemsOf_t, sMut_r, fApp_r, Option.bind_some, Option.map_some, List.length_cons, List.length_nil, Nat.zero_add, Nat.reduceAdd, Nat.reduceLT, Nat.reduceLeDiff, List.set_cons_zero, List.set_cons_succ, if_true, Bool.false_eq_true, if_false, Bool.not_true, Bool.not_false, decide_true, decide_false, reduceCtorEq, a0, a1, s1])]
  rw [seq_nx (ρ' := R16 S T N s w L (.val (encP p)) (.val (tS P)) (.own (.list (A :: r))) x9 x10 x11 x12) (by simp only [eK_r, eV_0, eV_s, eB_0v, eB_0b, eB_0p, eB_0o, eB_s, eP_0v, eP_0b, eP_s, eS_0, eS_s, getS_0, getS_s, aNil_r, aCons_r, eOp_r, eUn_r, eCall_r, eBm_r, eTup_r, eLst_r, eIf_r, eAnd_r, eOr_r, eNot_r, eIs_r, eChain_r, eSl_r, oNo_r, oSo_r, asI_r, bT_r, bV_r, bYes_r, asB_r, truth_b, truth_l, truth_t, truth_n, truth_i, bAnd_r, bOr_r, bNot_r, oAdd_i, oSub_i, oNeg_i, oLt_i, oLe_i, oGt_i, oGe_i, cInt_i, cInt_b, cLen_l, cLen_t, cList_l, cList_t, cMax2_i, cMin2_i, cAbs_i, isT_int_i, isT_bool_i, isT_bool_b, isT_int_b, isT_tuple_t, isT_list_l, oEq_i, oNe_i, oEq_b, oNe_b, oIsN_n, oNotN_n, oIsN_i, oNotN_i, oIsB_b, oNotB_b, sSeqn_r, sNext_r, sBrk_r, sCnt_r, sRetN_r, sExpr_r, sRet_r, sRetOwn_r, sIf_r, sSet_r, sOwn_r, sAsg_r, gV_r, gT_r, gsNil_r, gsCons_r, sFz_r, sAug_r, addI_r, subI_r, sSeq_r, sArgs_r, itemsOf_l, itemsOf_t, sMut_r, fApp_r, Option.bind_some, Option.map_some, List.length_cons, List.length_nil, Nat.zero_add, Nat.reduceAdd, Nat.reduceLT, Nat.reduceLeDiff, List.set_cons_zero, List.set_cons_succ, if_true, Bool.false_eq_true, if_false, Bool.not_true, Bool.not_false, decide_true, decide_false, reduceCtorEq, eCallK_r, List.append_nil, List.cons_append, List.nil_append, j3])]
  have hlen2 : r.length + 1 = P.length + 1 := hlen
  rw [seq_nx (ρ' := R16 S T N s w L (.val (encP p)) (.val (tS P)) (.own (.list (A :: r))) x9 x10 x11 x12) (by simp only [eK_r, eV_0, eV_s, eB_0v, eB_0b, eB_0p, eB_0o, eB_s, eP_0v, eP_0b, eP_s, eS_0, eS_s, getS_0, getS_s, aNil_r, aCons_r, eOp_r, eUn_r, eCall_r, eBm_r, eTup_r, eLst_r, eIf_r, eAnd_r, eOr_r, eNot_r, eIs_r, eChain_r, eSl_r, oNo_r, oSo_r, asI_r, bT_r, bV_r, bYes_r, asB_r, truth_b, truth_l, truth_t, truth_n, truth_i, bAnd_r, bOr_r, bNot_r, oAdd_i, oSub_i, oNeg_i, oLt_i, oLe_i, oGt_i, oGe_i, cInt_i, cInt_b, cLen_l, cLen_t, cList_l, cList_t, cMax2_i, cMin2_i, cAbs_i, isT_int_i, isT_bool_i, isT_bool_b, isT_int_b, isT_tuple_t, isT_list_l, oEq_i, oNe_i, oEq_b, oNe_b, oIsN_n, oNotN_n, oIsN_i, oNotN_i, oIsB_b, oNotB_b, sSeqn_r, sNext_r, sBrk_r, sCnt_r, sRetN_r, sExpr_r, sRet_r, sRetOwn_r, sIf_r, sSet_r, sOwn_r, sAsg_r, gV_r, gT_r, gsNil_r, gsCons_r, sFz_r, sAug_r, addI_r, subI_r, sSeq_r, sArgs_r, itemsOf_l, itemsOf_t, sMut_r, fApp_r, Option.bind_some, Option.map_some, List.length_cons, List.length_nil, Nat.zero_add, Nat.reduceAdd, Nat.reduceLT, Nat.reduceLeDiff, List.set_cons_zero, List.set_cons_succ, if_true, Bool.false_eq_true, if_false, Bool.not_true, Bool.not_false, decide_true, decide_false, reduceCtorEq, lt, hlen2, hc])]
  rw [seq_nx (sForOwn_eq (ds := A :: r) (ρ' := R16 S T N s w L (.val (encP p)) (.val (tS P)) (.pin (.list (A :: r))) y9 x10 x11 x12) rfl hin9 rfl)]
  show sSeqn _ _ (R16 S T N s w L (.val (encP p)) (.val (tS P)) (.own (.list (A :: r))) y9 x10 x11 x12) = _
  rw [seq_nx (ρ' := R16 S T N s w L (.val (encP p)) (.val (tS P)) (.own (.list (A :: r))) y9 (.val (.list G)) x11 x12) (by simp only [eK_r, eV_0, eV_s, eB_0v, eB_0b, eB_0p, eB_0o, eB_s, eP_0v, eP_0b, eP_s, eS_0, eS_s, getS_0, getS_s, aNil_r, aCons_r, eOp_r, eUn_r, eCall_r, eBm_r, eTup_r, eLst_r, eIf_r, eAnd_r, eOr_r, eNot_r, eIs_r, eChain_r, eSl_r, oNo_r, oSo_r, asI_r, bT_r, bV_r, bYes_r, asB_r, truth_b, truth_l, truth_t, truth_n, truth_i, bAnd_r, bOr_r, bNot_r, oAdd_i, oSub_i, oNeg_i, oLt_i, oLe_i, oGt_i, oGe_i, cInt_i, cInt_b, cLen_l, cLen_t, cList_l, cList_t, cMax2_i, cMin2_i, cAbs_i, isT_int_i, isT_bool_i, isT_bool_b, isT_int_b, isT_tuple_t, isT_list_l, oEq_i, oNe_i, oEq_b, oNe_b, oIsN_n, oNotN_n, oIsN_i, oNotN_i, oIsB_b, oNotB_b, sSeqn_r, sNext_r, sBrk_r, sCnt_r, sRetN_r, sExpr_r, sRet_r, sRetOwn_r, sIf_r, sSet_r, sOwn_r, sAsg_r, gV_r, gT_r, gsNil_r, gsCons_r, sFz_r, sAug_r, addI_r, subI_r, sSeq_r, sArgs_r, itemsOf_l, itemsOf_t, sMut_r, fApp_r, Option.bind_some, Option.map_some, List.length_cons, List.length_nil, Nat.zero_add, Nat.reduceAdd, Nat.reduceLT, Nat.reduceLeDiff, List.set_cons_zero, List.set_cons_succ, if_true, Bool.false_eq_true, if_false, Bool.not_true, Bool.not_false, decide_true, decide_false, reduceCtorEq, ga])]
  have isn : oIsN (.list G) .none = some (.bool false) := rfl
  rw [seq_nx (ρ' := R16 S T N s w L (.val (encP p)) (.val (tS P)) (.own (.list (A :: r))) y9 (.val (.list G)) x11 x12) (by simp only [eK_r, eV_0, eV_s, eB_0v, eB_0b, eB_0p, eB_0o, eB_s, eP_0v, eP_0b, eP_s, eS_0, eS_s, getS_0, getS_s, aNil_r, aCons_r, eOp_r, eUn_r, eCall_r, eBm_r, eTup_r, eLst_r, eIf_r, eAnd_r, eOr_r, eNot_r, eIs_r, eChain_r, eSl_r, oNo_r, oSo_r, asI_r, bT_r, bV_r, bYes_r, asB_r, truth_b, truth_l, truth_t, truth_n, truth_i, bAnd_r, bOr_r, bNot_r, oAdd_i, oSub_i, oNeg_i, oLt_i, oLe_i, oGt_i, oGe_i, cInt_i, cInt_b, cLen_l, cLen_t, cList_l, cList_t, cMax2_i, cMin2_i, cAbs_i, isT_int_i, isT_bool_i, isT_bool_b, isT_int_b, isT_tuple_t, isT_list_l, oEq_i, oNe_i, oEq_b, oNe_b, oIsN_n, oNotN_n, oIsN_i, oNotN_i, oIsB_b, oNotB_b, sSeqn_r, sNext_r, sBrk_r, sCnt_r, sRetN_r, sExpr_r, sRet_r, sRetOwn_r, sIf_r, sSet_r, sOwn_r, sAsg_r, gV_r, gT_r, gsNil_r, gsCons_r, sFz_r, sAug_r, addI_r, subI_r, sSeq_r, sArgs_r, itemsOf_l, itemsOf_t, sMut_r, fApp_r, Option.bind_some, Option.map_some, List.length_cons, List.length_nil, Nat.zero_add, Nat.reduceAdd, Nat.reduceLT, Nat.reduceLeDiff, List.set_cons_zero, List.set_cons_succ, if_true, Bool.false_eq_true, if_false, Bool.not_true, Bool.not_false, decide_true, decide_false, reduceCtorEq, isn, j0, ev])]
  rw [seq_nx (ρ' := R16 S T N s w L (.val (encP p)) (.val (tS P)) (.own (.list (A :: r))) y9 (.val (.list G)) (.val (.int E)) x12) (by simp only [eK_r, eV_0, eV_s, eB_0v, eB_0b, eB_0p, eB_0o, eB_s, eP_0v, eP_0b, eP_s, eS_0, eS_s, getS_0, getS_s, aNil_r, aCons_r, eOp_r, eUn_r, eCall_r, eBm_r, eTup_r, eLst_r, eIf_r, eAnd_r, eOr_r, eNot_r, eIs_r, eChain_r, eSl_r, oNo_r, oSo_r, asI_r, bT_r, bV_r, bYes_r, asB_r, truth_b, truth_l, truth_t, truth_n, truth_i, bAnd_r, bOr_r, bNot_r, oAdd_i, oSub_i, oNeg_i, oLt_i, oLe_i, oGt_i, oGe_i, cInt_i, cInt_b, cLen_l, cLen_t, cList_l, cList_t, cMax2_i, cMin2_i, cAbs_i, isT_int_i, isT_bool_i, isT_bool_b, isT_int_b, isT_tuple_t, isT_list_l, oEq_i, oNe_i, oEq_b, oNe_b, oIsN_n, oNotN_n, oIsN_i, oNotN_i, oIsB_b, oNotB_b, sSeqn_r, sNext_r, sBrk_r, sCnt_r, sRetN_r, sExpr_r, sRet_r, sRetOwn_r, sIf_r, sSet_r, sOwn_r, sAsg_r, gV_r, gT_r, gsNil_r, gsCons_r, sFz_r, sAug_r, addI_r, subI_r, sSeq_r, sArgs_r, itemsOf_l, itemsOf_t, sMut_r, fApp_r, Option.bind_some, Option.map_some, List.length_cons, List.length_nil, Nat.zero_add, Nat.reduceAdd, Nat.reduceLT, Nat.reduceLeDiff, List.set_cons_zero, List.set_cons_succ, if_true, Bool.false_eq_true, if_false, Bool.not_true, Bool.not_false, decide_true, decide_false, reduceCtorEq, ex])]
  rw [seq_nx (ρ' := R16 S T N s w L (.val (encP p)) (.val (tS P)) (.own (.list (A :: r))) y9 (.val (.list G)) (.val (.int v)) x12) (by
    cases bb with
    | true =>
      rw [if_neg (by simp)] at hv
      simp only [eK_r, eV_0, eV_s, eB_0v, eB_0b, eB_0p, eB_0o, eB_s, eP_0v, eP_0b, eP_s, eS_0, eS_s, getS_0, getS_s, aNil_r, aCons_r, eOp_r, eUn_r, eCall_r, eBm_r, eTup_r, eLst_r, eIf_r, eAnd_r, eOr_r, eNot_r, eIs_r, eChain_r, eSl_r, oNo_r, oSo_r, asI_r, bT_r, bV_r, bYes_r, asB_r, truth_b, truth_l, truth_t, truth_n, truth_i, bAnd_r, bOr_r, bNot_r, oAdd_i, oSub_i, oNeg_i, oLt_i, oLe_i, oGt_i, oGe_i, cInt_i, cInt_b, cLen_l, cLen_t, cList_l, cList_t, cMax2_i, cMin2_i, cAbs_i, isT_int_i, isT_bool_i, isT_bool_b, isT_int_b, isT_tuple_t, isT_list_l, oEq_i, oNe_i, oEq_b, oNe_b, oIsN_n, oNotN_n, oIsN_i, oNotN_i, oIsB_b, oNotB_b, sSeqn_r, sNext_r, sBrk_r, sCnt_r, sRetN_r, sExpr_r, sRet_r, sRetOwn_r, sIf_r, sSet_r, sOwn_r, sAsg_r, gV_r, gT_r, gsNil_r, gsCons_r, sFz_r, sAug_r, addI_r, subI_r, sSeq_r, sArgs_r, itemsOf_l, itemsOf_t, sMut_r, fApp_r, Option.bind_some, Option.map_some, List.length_cons, List.length_nil, Nat.zero_add, Nat.reduceAdd, Nat.reduceLT, Nat.reduceLeDiff, List.set_cons_zero, List.set_cons_succ, if_true, Bool.false_eq_true, if_false, Bool.not_true, Bool.not_false, decide_true, decide_false, reduceCtorEq, a1, hr, hb, hv]
    | false =>
      by_cases d : 32 ∈ P
      · rw [if_pos ⟨rfl, d⟩] at hv
        rw [decide_eq_true d] at hin
        simp only [eK_r, eV_0, eV_s, eB_0v, eB_0b, eB_0p, eB_0o, eB_s, eP_0v, eP_0b, eP_s, eS_0, eS_s, getS_0, getS_s, aNil_r, aCons_r, eOp_r, eUn_r, eCall_r, eBm_r, eTup_r, eLst_r, eIf_r, eAnd_r, eOr_r, eNot_r, eIs_r, eChain_r, eSl_r, oNo_r, oSo_r, asI_r, bT_r, bV_r, bYes_r, asB_r, truth_b, truth_l, truth_t, truth_n, truth_i, bAnd_r, bOr_r, bNot_r, oAdd_i, oSub_i, oNeg_i, oLt_i, oLe_i, oGt_i, oGe_i, cInt_i, cInt_b, cLen_l, cLen_t, cList_l, cList_t, cMax2_i, cMin2_i, cAbs_i, isT_int_i, isT_bool_i, isT_bool_b, isT_int_b, isT_tuple_t, isT_list_l, oEq_i, oNe_i, oEq_b, oNe_b, oIsN_n, oNotN_n, oIsN_i, oNotN_i, oIsB_b, oNotB_b, sSeqn_r, sNext_r, sBrk_r, sCnt_r, sRetN_r, sExpr_r, sRet_r, sRetOwn_r, sIf_r, sSet_r, sOwn_r, sAsg_r, gV_r, gT_r, gsNil_r, gsCons_r, sFz_r, sAug_r, addI_r, subI_r, sSeq_r, sArgs_r, itemsOf_l, itemsOf_t, sMut_r, fApp_r, Option.bind_some, Option.map_some, List.length_cons, List.length_nil, Nat.zero_add, Nat.reduceAdd, Nat.reduceLT, Nat.reduceLeDiff, List.set_cons_zero, List.set_cons_succ, if_true, Bool.false_eq_true, if_false, Bool.not_true, Bool.not_false, decide_true, decide_false, reduceCtorEq, a1, hr, hb, hin, hv]
      · rw [if_neg (by simp [d])] at hv
        rw [decide_eq_false d] at hin
        simp only [eK_r, eV_0, eV_s, eB_0v, eB_0b, eB_0p, eB_0o, eB_s, eP_0v, eP_0b, eP_s, eS_0, eS_s, getS_0, getS_s, aNil_r, aCons_r, eOp_r, eUn_r, eCall_r, eBm_r, eTup_r, eLst_r, eIf_r, eAnd_r, eOr_r, eNot_r, eIs_r, eChain_r, eSl_r, oNo_r, oSo_r, asI_r, bT_r, bV_r, bYes_r, asB_r, truth_b, truth_l, truth_t, truth_n, truth_i, bAnd_r, bOr_r, bNot_r, oAdd_i, oSub_i, oNeg_i, oLt_i, oLe_i, oGt_i, oGe_i, cInt_i, cInt_b, cLen_l, cLen_t, cList_l, cList_t, cMax2_i, cMin2_i, cAbs_i, isT_int_i, isT_bool_i, isT_bool_b, isT_int_b, isT_tuple_t, isT_list_l, oEq_i, oNe_i, oEq_b, oNe_b, oIsN_n, oNotN_n, oIsN_i, oNotN_i, oIsB_b, oNotB_b, sSeqn_r, sNext_r, sBrk_r, sCnt_r, sRetN_r, sExpr_r, sRet_r, sRetOwn_r, sIf_r, sSet_r, sOwn_r, sAsg_r, gV_r, gT_r, gsNil_r, gsCons_r, sFz_r, sAug_r, addI_r, subI_r, sSeq_r, sArgs_r, itemsOf_l, itemsOf_t, sMut_r, fApp_r, Option.bind_some, Option.map_some, List.length_cons, List.length_nil, Nat.zero_add, Nat.reduceAdd, Nat.reduceLT, Nat.reduceLeDiff, List.set_cons_zero, List.set_cons_succ, if_true, Bool.false_eq_true, if_false, Bool.not_true, Bool.not_false, decide_true, decide_false, reduceCtorEq, a1, hr, hb, hin, hv])]
  rw [seq_nx (ρ' := R16 S T N s w L (.val (encP p)) (.val (tS P)) (.own (.list (A :: r))) y9 (.val (.list G)) (.val (.int v)) x12) (by simp only [eK_r, eV_0, eV_s, eB_0v, eB_0b, eB_0p, eB_0o, eB_s, eP_0v, eP_0b, eP_s, eS_0, eS_s, getS_0, getS_s, aNil_r, aCons_r, eOp_r, eUn_r, eCall_r, eBm_r, eTup_r, eLst_r, eIf_r, eAnd_r, eOr_r, eNot_r, eIs_r, eChain_r, eSl_r, oNo_r, oSo_r, asI_r, bT_r, bV_r, bYes_r, asB_r, truth_b, truth_l, truth_t, truth_n, truth_i, bAnd_r, bOr_r, bNot_r, oAdd_i, oSub_i, oNeg_i, oLt_i, oLe_i, oGt_i, oGe_i, cInt_i, cInt_b, cLen_l, cLen_t, cList_l, cList_t, cMax2_i, cMin2_i, cAbs_i, isT_int_i, isT_bool_i, isT_bool_b, isT_int_b, isT_tuple_t, isT_list_l, oEq_i, oNe_i, oEq_b, oNe_b, oIsN_n, oNotN_n, oIsN_i, oNotN_i, oIsB_b, oNotB_b, sSeqn_r, sNext_r, sBrk_r, sCnt_r, sRetN_r, sExpr_r, sRet_r, sRetOwn_r, sIf_r, sSet_r, sOwn_r, sAsg_r, gV_r, gT_r, gsNil_r, gsCons_r, sFz_r, sAug_r, addI_r, subI_r, sSeq_r, sArgs_r, itemsOf_l, itemsOf_t, sMut_r, fApp_r, Option.bind_some, Option.map_some, List.length_cons, List.length_nil, Nat.zero_add, Nat.reduceAdd, Nat.reduceLT, Nat.reduceLeDiff, List.set_cons_zero, List.set_cons_succ, if_true, Bool.false_eq_true, if_false, Bool.not_true, Bool.not_false, decide_true, decide_false, reduceCtorEq, jl])]
  rw [seq_nx (ρ' := R16 S T N s w L (.val (encP p)) (.val (tS P)) (.own (.list (A :: r))) y9 (.val (.list G)) (.val (.int v)) (.val (.list (A :: r)))) (by simp only [eK_r, eV_0, eV_s, eB_0v, eB_0b, eB_0p, eB_0o, eB_s, eP_0v, eP_0b, eP_s, eS_0, eS_s, getS_0, getS_s, aNil_r, aCons_r, eOp_r, eUn_r, eCall_r, eBm_r, eTup_r, eLst_r, eIf_r, eAnd_r, eOr_r, eNot_r, eIs_r, eChain_r, eSl_r, oNo_r, oSo_r, asI_r, bT_r, bV_r, bYes_r, asB_r, truth_b, truth_l, truth_t, truth_n, truth_i, bAnd_r, bOr_r, bNot_r, oAdd_i, oSub_i, oNeg_i, oLt_i, oLe_i, oGt_i, oGe_i, cInt_i, cInt_b, cLen_l, cLen_t, cList_l, cList_t, cMax2_i, cMin2_i, cAbs_i, isT_int_i, isT_bool_i, isT_bool_b, isT_int_b, isT_tuple_t, isT_list_l, oEq_i, oNe_i, oEq_b, oNe_b, oIsN_n, oNotN_n, oIsN_i, oNotN_i, oIsB_b, oNotB_b, sSeqn_r, sNext_r, sBrk_r, sCnt_r, sRetN_r, sExpr_r, sRet_r, sRetOwn_r, sIf_r, sSet_r, sOwn_r, sAsg_r, gV_r, gT_r, gsNil_r, gsCons_r, sFz_r, sAug_r, addI_r, subI_r, sSeq_r, sArgs_r, itemsOf_l, itemsOf_t, sMut_r, fApp_r, Option.bind_some, Option.map_some, List.length_cons, List.length_nil, Nat.zero_add, Nat.reduceAdd, Nat.reduceLT, Nat.reduceLeDiff, List.set_cons_zero, List.set_cons_succ, if_true, Bool.false_eq_true, if_false, Bool.not_true, Bool.not_false, decide_true, decide_false, reduceCtorEq])]
  rw [seq_nx (ρ' := R16 S T N s w L (.val (encP p)) (.val (tS P)) (.own (.list (.int (-7) :: r))) y9 (.val (.list G)) (.val (.int v)) (.val (.list (A :: r)))) (by simp [sPut, fSet, ixN])]
  simp only [eK_r, eV_0, eV_s, eB_0v, eB_0b, eB_0p, eB_0o, eB_s, eP_0v, eP_0b, eP_s, eS_0, eS_s, getS_0, getS_s, aNil_r, aCons_r, eOp_r, eUn_r, eCall_r, eBm_r, eTup_r, eLst_r, eIf_r, eAnd_r, eOr_r, eNot_r, eIs_r, eChain_r, eSl_r, oNo_r, oSo_r, asI_r, bT_r, bV_r, bYes_r, asB_r, truth_b, truth_l, truth_t, truth_n, truth_i, bAnd_r, bOr_r, bNot_r, oAdd_i, oSub_i, oNeg_i, oLt_i, oLe_i, oGt_i, oGe_i, cInt_i, cInt_b, cLen_l, cLen_t, cList_l, cList_t, cMax2_i, cMin2_i, cAbs_i, isT_int_i, isT_bool_i, isT_bool_b, isT_int_b, isT_tuple_t, isT_list_l, oEq_i, oNe_i, oEq_b, oNe_b, oIsN_n, oNotN_n, oIsN_i, oNotN_i, oIsB_b, oNotB_b, sSeqn_r, sNext_r, sBrk_r, sCnt_r, sRetN_r, sExpr_r, sRet_r, sRetOwn_r, sIf_r, sSet_r, sOwn_r, sAsg_r, gV_r, gT_r, gsNil_r, gsCons_r, sFz_r, sAug_r, addI_r, subI_r, sSeq_r, sArgs_r, itemsOf_l, itemsOf_t, sMut_r, fApp_r, Option.bind_some, Option.map_some, List.length_cons, List.length_nil, Nat.zero_add, Nat.reduceAdd, Nat.reduceLT, Nat.reduceLeDiff, List.set_cons_zero, List.set_cons_succ, if_true, Bool.false_eq_true, if_false, Bool.not_true, Bool.not_false, decide_true, decide_false, reduceCtorEq, eCallK_r, List.append_nil, List.cons_append, List.nil_append, j3, ne1]
theorem law_loop (S : PyData) (T : List Nat) (aT : Asc T) (lT : T.length ≤ 4000) (N s w : Int) (hw : w ≤ 1000000000) (hs : 0 ≤ s) (L : PyData) : ∀ (R : List (Nat × Nat)), (∀ r ∈ R, r.1 ≤ r.2 ∧ r.2 ≤ T.length) → ∀ x6 x7 x8 x9 x10 x11 x12,
    ∃ y6 y7 y8 y9 y10 y11 y12, forGo (gV 6) L_law_2 (R.map encP) (R16 S T N s w L x6 x7 x8 x9 x10 x11 x12) = some (.nx (R16 S T N s w L y6 y7 y8 y9 y10 y11 y12))
  | [], _, x6, x7, x8, x9, x10, x11, x12 => ⟨x6, x7, x8, x9, x10, x11, x12, rfl⟩
  | p :: R, h, x6, x7, x8, x9, x10, x11, x12 => by
    obtain ⟨h1, h2⟩ := h p List.mem_cons_self
    obtain ⟨y7, y8, y9, y10, y11, y12, st⟩ := law_step S T aT lT N s w hw hs L p h1 h2 x7 x8 x9 x10 x11 x12
    obtain ⟨z6, z7, z8, z9, z10, z11, z12, e⟩ := law_loop S T aT lT N s w hw hs L R (fun r hr => h r (List.mem_cons_of_mem _ hr)) (.val (encP p)) y7 y8 y9 y10 y11 y12
    refine ⟨z6, z7, z8, z9, z10, z11, z12, ?_⟩
    rw [List.map_cons, forGo, show gV 6 (encP p) (R16 S T N s w L x6 x7 x8 x9 x10 x11 x12) = some (R16 S T N s w L (.val (encP p)) x7 x8 x9 x10 x11 x12) from rfl, Option.bind_some, st, Option.bind_some]
    exact e
theorem law_true (ns : List Int) (hl : ns.length ≤ 63) (hb : ∀ z ∈ ns, Builtin.Int.intBits z ≤ 1048576) : F_law [.list (ns.map .int)] = some (.bool true) := by
  obtain ⟨T, tT, lT, aT⟩ := text_ex ns hl 2 (by decide)
  have tT : F__law_text [.list (ns.map .int), .int 2] = some (tS T) := tT
  have c0 : F__law_cell [.list (ns.map .int), .int 0] = some (.int (cellV ns 0)) := cell_eq ns 0
  have c1 : F__law_cell [.list (ns.map .int), .int 1] = some (.int (cellV ns 1)) := cell_eq ns 1
  have s0 := source_eq (cellV ns 0)
  have hN := srcV_b (cellV ns 0)
  generalize srcV (cellV ns 0) = N at *
  have hz : 1 ≤ 1 + N % 20 ∧ 1 + N % 20 ≤ 20 := by omega
  generalize hs : 1 + N % 20 = s at *
  obtain ⟨w, ew, hw⟩ := room_ex (cellV ns 1) T (by omega) aT s hz
  have eR := lines_eq T aT (by omega) s w
  obtain ⟨r0, R0, eL, hg0, hL, hlen⟩ := lines_lns T aT (by omega) (offV T s) w
  have hrow := hL.row
  rw [← eL] at hrow
  have hne : linesV (offV T s) w T ≠ [] := by rw [eL]; simp
  generalize linesV (offV T s) w T = R at *
  have hpos : 0 < R.length := List.length_pos_iff.mpr hne
  have hRl : (R.map encP).length = R.length := List.length_map ..
  have key := fun w hw => law_loop (.list (ns.map .int)) T aT (by omega) N s w hw (by omega) (.list (R.map encP)) R (fun r hr => (hrow r hr).le) .un .un .un .un .un .un .un
  have m1 : oMod (.int N) (.int 20) = some (.int (N % 20)) := oMod_i (by omega)
  have m4 : oFdiv (.int N) (.int 60) = some (.int (N / 60)) := oFdiv_i (by omega) (by omega)
  have m5 : oMod (.int (N / 60)) (.int 3) = some (.int (N / 60 % 3)) := oMod_i (by omega)
  have m6 : oFdiv (.int N) (.int 180) = some (.int (N / 180)) := oFdiv_i (by omega) (by omega)
  have m8 : oFdiv (.int N) (.int 900000) = some (.int (N / 900000)) := oFdiv_i (by omega) (by omega)
  have m9 : oMod (.int (N / 900000)) (.int 2) = some (.int (N / 900000 % 2)) := oMod_i (by omega)
  obtain ⟨t, mt, et⟩ := pickI [300, 5000] (i := N / 900000 % 2) (by omega) (by simp; omega)
  have bt : 1 ≤ t ∧ t ≤ 5000 := by simp at mt; omega
  have et : oIx (.list [.int 300, .int 5000]) (.int (N / 900000 % 2)) = some (.int t) := et
  have m7 : oMod (.int (N / 180)) (.int t) = some (.int (N / 180 % t)) := oMod_i (by omega)
  have bw : N / 180 % t ≤ 1000000000 := by
    have := Int.emod_lt_of_pos (N / 180) (show 0 < t by omega)
    omega
  have en : ((R.length : Int) = 0) = False := by simp; omega
  have le2 : 2 ≤ sizeLine := size_le (by decide)
  refine box_rt rfl ?_
  unfold B_law
  rw [seq_nx (ρ' := [.scr (.list (ns.map .int)), .val (tS T), .un, .un, .un, .un, .un, .un, .un, .un, .un, .un, .un]) (by simp [tT])]
  rw [seq_nx (ρ' := [.scr (.list (ns.map .int)), .val (tS T), .val (.int N), .un, .un, .un, .un, .un, .un, .un, .un, .un, .un]) (by simp [c0, s0])]
  rw [seq_nx (ρ' := [.scr (.list (ns.map .int)), .val (tS T), .val (.int N), .val (.int s), .un, .un, .un, .un, .un, .un, .un, .un, .un]) (by simp only [eK_r, eV_0, eV_s, eB_0v, eB_0b, eB_0p, eB_0o, eB_s, eP_0v, eP_0b, eP_s, eS_0, eS_s, getS_0, getS_s, aNil_r, aCons_r, eOp_r, eUn_r, eCall_r, eBm_r, eTup_r, eLst_r, eIf_r, eAnd_r, eOr_r, eNot_r, eIs_r, eChain_r, eSl_r, oNo_r, oSo_r, asI_r, bT_r, bV_r, bYes_r, asB_r, truth_b, truth_l, truth_t, truth_n, truth_i, bAnd_r, bOr_r, bNot_r, oAdd_i, oSub_i, oNeg_i, oLt_i, oLe_i, oGt_i, oGe_i, cInt_i, cInt_b, cLen_l, cLen_t, cList_l, cList_t, cMax2_i, cMin2_i, cAbs_i, isT_int_i, isT_bool_i, isT_bool_b, isT_int_b, isT_tuple_t, isT_list_l, oEq_i, oNe_i, oEq_b, oNe_b, oIsN_n, oNotN_n, oIsN_i, oNotN_i, oIsB_b, oNotB_b, sSeqn_r, sNext_r, sBrk_r, sCnt_r, sRetN_r, sExpr_r, sRet_r, sRetOwn_r, sIf_r, sSet_r, sOwn_r, sAsg_r, gV_r, gT_r, gsNil_r, gsCons_r, sFz_r, sAug_r, addI_r, subI_r, sSeq_r, sArgs_r, itemsOf_l, itemsOf_t, sMut_r, fApp_r, Option.bind_some, Option.map_some, List.length_cons, List.length_nil, Nat.zero_add, Nat.reduceAdd, Nat.reduceLT, Nat.reduceLeDiff, List.set_cons_zero, List.set_cons_succ, if_true, Bool.false_eq_true, if_false, Bool.not_true, Bool.not_false, decide_true, decide_false, reduceCtorEq, m1, hs])]
  rw [seq_nx (ρ' := [.scr (.list (ns.map .int)), .val (tS T), .val (.int N), .val (.int s), .val (.int w), .un, .un, .un, .un, .un, .un, .un, .un]) (by simp [c1, ew])]
  rw [seq_nx (ρ' := [.scr (.list (ns.map .int)), .val (tS T), .val (.int N), .val (.int s), .val (.int w), .val (.list (R.map encP)), .un, .un, .un, .un, .un, .un, .un]) (by simp only [eK_r, eV_0, eV_s, eB_0v, eB_0b, eB_0p, eB_0o, eB_s, eP_0v, eP_0b, eP_s, eS_0, eS_s, getS_0, getS_s, aNil_r, aCons_r, eOp_r, eUn_r, eCall_r, eBm_r, eTup_r, eLst_r, eIf_r, eAnd_r, eOr_r, eNot_r, eIs_r, eChain_r, eSl_r, oNo_r, oSo_r, asI_r, bT_r, bV_r, bYes_r, asB_r, truth_b, truth_l, truth_t, truth_n, truth_i, bAnd_r, bOr_r, bNot_r, oAdd_i, oSub_i, oNeg_i, oLt_i, oLe_i, oGt_i, oGe_i, cInt_i, cInt_b, cLen_l, cLen_t, cList_l, cList_t, cMax2_i, cMin2_i, cAbs_i, isT_int_i, isT_bool_i, isT_bool_b, isT_int_b, isT_tuple_t, isT_list_l, oEq_i, oNe_i, oEq_b, oNe_b, oIsN_n, oNotN_n, oIsN_i, oNotN_i, oIsB_b, oNotB_b, sSeqn_r, sNext_r, sBrk_r, sCnt_r, sRetN_r, sExpr_r, sRet_r, sRetOwn_r, sIf_r, sSet_r, sOwn_r, sAsg_r, gV_r, gT_r, gsNil_r, gsCons_r, sFz_r, sAug_r, addI_r, subI_r, sSeq_r, sArgs_r, itemsOf_l, itemsOf_t, sMut_r, fApp_r, Option.bind_some, Option.map_some, List.length_cons, List.length_nil, Nat.zero_add, Nat.reduceAdd, Nat.reduceLT, Nat.reduceLeDiff, List.set_cons_zero, List.set_cons_succ, if_true, Bool.false_eq_true, if_false, Bool.not_true, Bool.not_false, decide_true, decide_false, reduceCtorEq, eR])]
  rw [seq_nx (ρ' := [.scr (.list (ns.map .int)), .val (tS T), .val (.int N), .val (.int s), .val (.int w), .val (.list (R.map encP)), .un, .un, .un, .un, .un, .un, .un]) (by simp only [eK_r, eV_0, eV_s, eB_0v, eB_0b, eB_0p, eB_0o, eB_s, eP_0v, eP_0b, eP_s, eS_0, eS_s, getS_0, getS_s, aNil_r, aCons_r, eOp_r, eUn_r, eCall_r, eBm_r, eTup_r, eLst_r, eIf_r, eAnd_r, eOr_r, eNot_r, eIs_r, eChain_r, eSl_r, oNo_r, oSo_r, asI_r, bT_r, bV_r, bYes_r, asB_r, truth_b, truth_l, truth_t, truth_n, truth_i, bAnd_r, bOr_r, bNot_r, oAdd_i, oSub_i, oNeg_i, oLt_i, oLe_i, oGt_i, oGe_i, cInt_i, cInt_b, cLen_l, cLen_t, cList_l, cList_t, cMax2_i, cMin2_i, cAbs_i, isT_int_i, isT_bool_i, isT_bool_b, isT_int_b, isT_tuple_t, isT_list_l, oEq_i, oNe_i, oEq_b, oNe_b, oIsN_n, oNotN_n, oIsN_i, oNotN_i, oIsB_b, oNotB_b, sSeqn_r, sNext_r, sBrk_r, sCnt_r, sRetN_r, sExpr_r, sRet_r, sRetOwn_r, sIf_r, sSet_r, sOwn_r, sAsg_r, gV_r, gT_r, gsNil_r, gsCons_r, sFz_r, sAug_r, addI_r, subI_r, sSeq_r, sArgs_r, itemsOf_l, itemsOf_t, sMut_r, fApp_r, Option.bind_some, Option.map_some, List.length_cons, List.length_nil, Nat.zero_add, Nat.reduceAdd, Nat.reduceLT, Nat.reduceLeDiff, List.set_cons_zero, List.set_cons_succ, if_true, Bool.false_eq_true, if_false, Bool.not_true, Bool.not_false, decide_true, decide_false, reduceCtorEq, hRl, en])]
  have hw2 : ∃ w2 : Int, w2 ≤ 1000000000 ∧ sIf (bT (eOp oEq (eOp oMod (eCall cInt (aCons (eOp oFdiv (eB 2) (eK (.int 60))) aNil)) (eK (.int 3))) (eK (.int 0))))
    (sSet 4 (eOp oMod (eCall cInt (aCons (eOp oFdiv (eB 2) (eK (.int 180))) aNil)) (eOp oIx (eLst (aCons (eK (.int 300)) (aCons (eK (.int 5000)) aNil))) (eOp oMod (eCall cInt (aCons (eOp oFdiv (eB 2) (eK (.int 900000))) aNil)) (eK (.int 2))))))
    sNext [.scr (.list (ns.map .int)), .val (tS T), .val (.int N), .val (.int s), .val (.int w), .val (.list (R.map encP)), .un, .un, .un, .un, .un, .un, .un] = some (.nx [.scr (.list (ns.map .int)), .val (tS T), .val (.int N), .val (.int s), .val (.int w2), .val (.list (R.map encP)), .un, .un, .un, .un, .un, .un, .un]) := by
    by_cases z : N / 60 % 3 = 0
    · exact ⟨N / 180 % t, bw, by simp only [eK_r, eV_0, eV_s, eB_0v, eB_0b, eB_0p, eB_0o, eB_s, eP_0v, eP_0b, eP_s, eS_0, eS_s, getS_0, getS_s, aNil_r, aCons_r, eOp_r, eUn_r, eCall_r, eBm_r, eTup_r, eLst_r, eIf_r, eAnd_r, eOr_r, eNot_r, eIs_r, eChain_r, eSl_r, oNo_r, oSo_r, asI_r, bT_r, bV_r, bYes_r, asB_r, truth_b, truth_l, truth_t, truth_n, truth_i, bAnd_r, bOr_r, bNot_r, oAdd_i, oSub_i, oNeg_i, oLt_i, oLe_i, oGt_i, oGe_i, cInt_i, cInt_b, cLen_l, cLen_t, cList_l, cList_t, cMax2_i, cMin2_i, cAbs_i, isT_int_i, isT_bool_i, isT_bool_b, isT_int_b, isT_tuple_t, isT_list_l, oEq_i, oNe_i, oEq_b, oNe_b, oIsN_n, oNotN_n, oIsN_i, oNotN_i, oIsB_b, oNotB_b, sSeqn_r, sNext_r, sBrk_r, sCnt_r, sRetN_r, sExpr_r, sRet_r, sRetOwn_r, sIf_r, sSet_r, sOwn_r, sAsg_r, gV_r, gT_r, gsNil_r, gsCons_r, sFz_r, sAug_r, addI_r, subI_r, sSeq_r, sArgs_r, itemsOf_l, itemsOf_t, sMut_r, fApp_r, Option.bind_some, Option.map_some, List.length_cons, List.length_nil, Nat.zero_add, Nat.reduceAdd, Nat.reduceLT, Nat.reduceLeDiff, List.set_cons_zero, List.set_cons_succ, if_true, Bool.false_eq_true, if_false, Bool.not_true, Bool.not_false, decide_true, decide_false, reduceCtorEq, m4, m5, z, m6, m8, m9, le2, et, m7]⟩
    · exact ⟨w, by omega, by simp only [eK_r, eV_0, eV_s, eB_0v, eB_0b, eB_0p, eB_0o, eB_s, eP_0v, eP_0b, eP_s, eS_0, eS_s, getS_0, getS_s, aNil_r, aCons_r, eOp_r, eUn_r, eCall_r, eBm_r, eTup_r, eLst_r, eIf_r, eAnd_r, eOr_r, eNot_r, eIs_r, eChain_r, eSl_r, oNo_r, oSo_r, asI_r, bT_r, bV_r, bYes_r, asB_r, truth_b, truth_l, truth_t, truth_n, truth_i, bAnd_r, bOr_r, bNot_r, oAdd_i, oSub_i, oNeg_i, oLt_i, oLe_i, oGt_i, oGe_i, cInt_i, cInt_b, cLen_l, cLen_t, cList_l, cList_t, cMax2_i, cMin2_i, cAbs_i, isT_int_i, isT_bool_i, isT_bool_b, isT_int_b, isT_tuple_t, isT_list_l, oEq_i, oNe_i, oEq_b, oNe_b, oIsN_n, oNotN_n, oIsN_i, oNotN_i, oIsB_b, oNotB_b, sSeqn_r, sNext_r, sBrk_r, sCnt_r, sRetN_r, sExpr_r, sRet_r, sRetOwn_r, sIf_r, sSet_r, sOwn_r, sAsg_r, gV_r, gT_r, gsNil_r, gsCons_r, sFz_r, sAug_r, addI_r, subI_r, sSeq_r, sArgs_r, itemsOf_l, itemsOf_t, sMut_r, fApp_r, Option.bind_some, Option.map_some, List.length_cons, List.length_nil, Nat.zero_add, Nat.reduceAdd, Nat.reduceLT, Nat.reduceLeDiff, List.set_cons_zero, List.set_cons_succ, if_true, Bool.false_eq_true, if_false, Bool.not_true, Bool.not_false, decide_true, decide_false, reduceCtorEq, m4, m5, z]⟩
  obtain ⟨w2, hb2, hw2⟩ := hw2
  rw [seq_nx hw2]
  obtain ⟨y6, y7, y8, y9, y10, y11, y12, e⟩ := key w2 hb2
  rw [seq_nx ((sFor_eq (ds := R.map encP) (by simp only [eK_r, eV_0, eV_s, eB_0v, eB_0b, eB_0p, eB_0o, eB_s, eP_0v, eP_0b, eP_s, eS_0, eS_s, getS_0, getS_s, aNil_r, aCons_r, eOp_r, eUn_r, eCall_r, eBm_r, eTup_r, eLst_r, eIf_r, eAnd_r, eOr_r, eNot_r, eIs_r, eChain_r, eSl_r, oNo_r, oSo_r, asI_r, bT_r, bV_r, bYes_r, asB_r, truth_b, truth_l, truth_t, truth_n, truth_i, bAnd_r, bOr_r, bNot_r, oAdd_i, oSub_i, oNeg_i, oLt_i, oLe_i, oGt_i, oGe_i, cInt_i, cInt_b, cLen_l, cLen_t, cList_l, cList_t, cMax2_i, cMin2_i, cAbs_i, isT_int_i, isT_bool_i, isT_bool_b, isT_int_b, isT_tuple_t, isT_list_l, oEq_i, oNe_i, oEq_b, oNe_b, oIsN_n, oNotN_n, oIsN_i, oNotN_i, oIsB_b, oNotB_b, sSeqn_r, sNext_r, sBrk_r, sCnt_r, sRetN_r, sExpr_r, sRet_r, sRetOwn_r, sIf_r, sSet_r, sOwn_r, sAsg_r, gV_r, gT_r, gsNil_r, gsCons_r, sFz_r, sAug_r, addI_r, subI_r, sSeq_r, sArgs_r, itemsOf_l, itemsOf_t, sMut_r, fApp_r, Option.bind_some, Option.map_some, List.length_cons, List.length_nil, Nat.zero_add, Nat.reduceAdd, Nat.reduceLT, Nat.reduceLeDiff, List.set_cons_zero, List.set_cons_succ, if_true, Bool.false_eq_true, if_false, Bool.not_true, Bool.not_false, decide_true, decide_false, reduceCtorEq])).trans e)]
  simp only [eK_r, eV_0, eV_s, eB_0v, eB_0b, eB_0p, eB_0o, eB_s, eP_0v, eP_0b, eP_s, eS_0, eS_s, getS_0, getS_s, aNil_r, aCons_r, eOp_r, eUn_r, eCall_r, eBm_r, eTup_r, eLst_r, eIf_r, eAnd_r, eOr_r, eNot_r, eIs_r, eChain_r, eSl_r, oNo_r, oSo_r, asI_r, bT_r, bV_r, bYes_r, asB_r, truth_b, truth_l, truth_t, truth_n, truth_i, bAnd_r, bOr_r, bNot_r, oAdd_i, oSub_i, oNeg_i, oLt_i, oLe_i, oGt_i, oGe_i, cInt_i, cInt_b, cLen_l, cLen_t, cList_l, cList_t, cMax2_i, cMin2_i, cAbs_i, isT_int_i, isT_bool_i, isT_bool_b, isT_int_b, isT_tuple_t, isT_list_l, oEq_i, oNe_i, oEq_b, oNe_b, oIsN_n, oNotN_n, oIsN_i, oNotN_i, oIsB_b, oNotB_b, sSeqn_r, sNext_r, sBrk_r, sCnt_r, sRetN_r, sExpr_r, sRet_r, sRetOwn_r, sIf_r, sSet_r, sOwn_r, sAsg_r, gV_r, gT_r, gsNil_r, gsCons_r, sFz_r, sAug_r, addI_r, subI_r, sSeq_r, sArgs_r, itemsOf_l, itemsOf_t, sMut_r, fApp_r, Option.bind_some, Option.map_some, List.length_cons, List.length_nil, Nat.zero_add, Nat.reduceAdd, Nat.reduceLT, Nat.reduceLeDiff, List.set_cons_zero, List.set_cons_succ, if_true, Bool.false_eq_true, if_false, Bool.not_true, Bool.not_false, decide_true, decide_false, reduceCtorEq]
end Lw
open PySem PySem.W PyProof.Rows
set_option maxHeartbeats 0 in
theorem PySem.Challenge.cw_quirekiln_k16_places_of_a_full_line_holds : PySem.Challenge.rw_quirekiln_k16_places_of_a_full_line.Holds := by
  w_on; o_law; k_head; (case hw => w_witness2)
  k_fill
  refine L2.walk_ofB (l := PySem.Challenge.rw_quirekiln_k16_places_of_a_full_line) (n := 63) (k := 5) (x := "script") (CX := fun _ => L2.CX0) (sp := fun w => DV.spD _ .val [.scr] Lw.F_law) rfl (by decide) rfl ⟨rfl, by decide, by decide⟩ (fun w h Y => PySem.W.kIn_of Y) ?F (fun _ _ a ns hl hb _ hS => DV.law_sp hS (Lw.law_true ns hl hb)) (fun _ _ _ _ _ h => h)
  case F =>
    intro w mg fa h KX G hmg
    refine' Lw.all_mk KX G hmg ?a0 ?l0 ?c0 ?k0 ?a1 ?l1 ?c1 ?k1 ?a2 ?l2 ?c2 ?k2 ?a3 ?l3 ?c3 ?k3 ?a4 ?l4 ?c4 ?k4 ?a5 ?l5 ?c5 ?k5 ?a6 ?l6 ?c6 ?k6 ?a7 ?l7 ?c7 ?k7 ?a8 ?l8 ?c8 ?k8 ?a9 ?l9 ?c9 ?k9 ?a10 ?l10 ?c10 ?k10 ?a11 ?l11 ?c11 ?k11 ?a12 ?l12 ?c12 ?k12 ?a13 ?l13 ?c13 ?k13 ?a14 ?l14 ?c14 ?k14 ?a15 ?l15 ?c15 ?k15 ?a16 ?l16 ?c16 ?k16 ?a17 ?l17 ?c17 ?k17 ?a18 ?l18 ?c18 ?k18 ?d18_align ?a19 ?l19 ?c19 ?k19 ?a20 ?l20 ?c20 ?k20 ?a21 ?l21 ?c21 ?k21 ?a22 ?l22 ?c22 ?k22 ?a23 ?l23 ?c23 ?k23 ?a24 ?l24 ?c24 ?k24 ?z_int ?z_len ?z_range ?z_sum ?z_max ?z_min ?z_bool ?z_isinstance ?z_list ?c_BROAD ?c_THIN
    (case a0 => k_is); (case l0 => k_is); (case c0 => k_is); (case k0 => k_is); (case a1 => k_is); (case l1 => k_is); (case c1 => k_is); (case k1 => k_is); (case a2 => k_is); (case l2 => k_is); (case c2 => k_is); (case k2 => k_is); (case a3 => k_is); (case l3 => k_is); (case c3 => k_is); (case k3 => k_is); (case a4 => k_is); (case l4 => k_is); (case c4 => k_is); (case k4 => k_is); (case a5 => k_is); (case l5 => k_is); (case c5 => k_is); (case k5 => k_is); (case a6 => k_is); (case l6 => k_is); (case c6 => k_is); (case k6 => k_is); (case a7 => k_is); (case l7 => k_is); (case c7 => k_is); (case k7 => k_is); (case a8 => k_is); (case l8 => k_is); (case c8 => k_is); (case k8 => k_is); (case a9 => k_is); (case l9 => k_is); (case c9 => k_is); (case k9 => k_is); (case a10 => k_is); (case l10 => k_is); (case c10 => k_is); (case k10 => k_is); (case a11 => k_is); (case l11 => k_is); (case c11 => k_is); (case k11 => k_is); (case a12 => k_is); (case l12 => k_is); (case c12 => k_is); (case k12 => k_is); (case a13 => k_is); (case l13 => k_is); (case c13 => k_is); (case k13 => k_is); (case a14 => k_is); (case l14 => k_is); (case c14 => k_is); (case k14 => k_is); (case a15 => k_is); (case l15 => k_is); (case c15 => k_is); (case k15 => k_is); (case a16 => k_is); (case l16 => k_is); (case c16 => k_is); (case k16 => k_is); (case a17 => k_is); (case l17 => k_is); (case c17 => k_is); (case k17 => k_is); (case a18 => k_is); (case l18 => k_is); (case c18 => k_is); (case k18 => k_is); (case d18_align => k_is); (case a19 => k_is); (case l19 => k_is); (case c19 => k_is); (case k19 => k_is); (case a20 => k_is); (case l20 => k_is); (case c20 => k_is); (case k20 => k_is); (case a21 => k_is); (case l21 => k_is); (case c21 => k_is); (case k21 => k_is); (case a22 => k_is); (case l22 => k_is); (case c22 => k_is); (case k22 => k_is); (case a23 => k_is); (case l23 => k_is); (case c23 => k_is); (case k23 => k_is); (case a24 => k_is); (case l24 => k_is); (case c24 => k_is); (case k24 => k_is); (case z_int => k_is); (case z_len => k_is); (case z_range => k_is); (case z_sum => k_is); (case z_max => k_is); (case z_min => k_is); (case z_bool => k_is); (case z_isinstance => k_is); (case z_list => k_is); (case c_BROAD => k_is); (case c_THIN => k_is)
