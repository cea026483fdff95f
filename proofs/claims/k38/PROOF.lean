import PyProof.Rows.All
import Wide.All
import OpenK.AllK
import Wide.FinOn
import HandS.Base
import HandS.Call
import HandS.List
import HandS.Comp
import HandS.Ends
import HandS.Dict
import HandS.Iter
import HandS.Text
import HandS.Words
import HandS.WordsList
import HandS.Wide
import HandS.Flow
import HandS.Style
import HandS.IsInst
import HandS.More
import HandS.Deep
import HandS.Codes
import HandS.StrMore
import HandS.Defaults
import HandS.MakeKwOnly
import HandS.TupLen
import HandS.TupAny
import HandS.EndBits
import PySem.Challenge.RW_quirekiln_k38_shrink_widths
set_option Elab.async false
set_option linter.all false
set_option maxRecDepth 100000
set_option maxHeartbeats 4000000
namespace DV
open PySem L2

/-! ### heaps that grow -/
def Ex (H H' : Hp) : Prop := ∀ a o, H a = some o → H' a = some o
theorem Ex.refl (H : Hp) : Ex H H := fun _ _ h => h
theorem Ex.trans {H H1 H2 : Hp} (a : Ex H H1) (b : Ex H1 H2) : Ex H H2 := fun x o h => b x o (a x o h)
theorem Ex.new {H : Hp} {p : Addr} {o : HO} (h : H p = none) : Ex H (upd H p o) := fun a u e => by
  rw [upd_ne (ne_of_none e h)]; exact e
/-- an object that H does not know may change -/
theorem Ex.mut {H H' : Hp} {p : Addr} {o : HO} (e : Ex H H') (h : H p = none) : Ex H (upd H' p o) := fun a u ha => by
  rw [upd_ne (ne_of_none ha h)]; exact e a u ha
theorem Ex.upd2 {H H' : Hp} {p : Addr} {o : HO} (e : Ex H H') : Ex (upd H p o) (upd H' p o) := fun a u ha => by
  by_cases h : a = p
  · subst h; rw [upd_same] at ha ⊢; exact ha
  · rw [upd_ne h] at ha ⊢; exact e a u ha
theorem Ex.back {H H' : Hp} {p : Addr} (e : Ex H H') (h : H' p = none) : H p = none := by
  cases h1 : H p with
  | none => rfl
  | some o => rw [e p o h1] at h; cases h
theorem Ex.rd {H H' : Hp} {a : Addr} {u : HO} (e : Ex H H') (h : Rd H a u) : Rd H' a u := by
  rcases h with h | ⟨o, h⟩
  · exact Or.inl (e a _ h)
  · exact Or.inr ⟨o, e a _ h⟩
theorem Ex.sql {K : PySem.W.Frag} {H H' : Hp} {a : Addr} {xs : List V} (e : Ex H H') (h : SqL K H a xs) : SqL K H' a xs := h.imp e.rd id
theorem Ex.sqt {K : PySem.W.Frag} {H H' : Hp} {a : Addr} {xs : List V} (e : Ex H H') (h : SqT K H a xs) : SqT K H' a xs := h.imp e.rd id

theorem sqtOf {K : PySem.W.Frag} {G : Hp} {a : Addr} {vs : List V} (h : G a = some (.tup vs)) : SqT K G a vs := .inl (.inl h)
/-! ### deep values -/
/-- the keys of a dict as data -/
def keyD : Key → PyData
  | .inl i => .int i
  | .inr x => .str x
def keysD (ks : List Key) : PyData := .tuple (ks.map keyD)
mutual
inductive Rep (K : PySem.W.Frag) (G : Hp) : PyData → V → Prop
  | non : Rep K G .none .non
  | bl (b : Bool) : Rep K G (.bool b) (.bl b)
  | int (i : Int) : Rep K G (.int i) (.int i)
  | str (x : Str) : Rep K G (.str x) (.str x)
  | lst {a : Addr} {vs : List V} {ds : List PyData} : Rd G a (.lst vs) → RepA K G ds vs → Rep K G (.list ds) (.ref a)
  | tup {a : Addr} {vs : List V} {ds : List PyData} : G a = some (.tup vs) → RepA K G ds vs → Rep K G (.tuple ds) (.ref a)
  | dK {a : Addr} {ks : List (Key × V)} {es : List (PyData × PyData)} : Rd G a (.dK ks) → es.map (·.1) = ks.map (fun p => keyD p.1) → RepA K G (es.map (·.2)) (ks.map (·.2)) → Rep K G (.dict es) (.ref a)
  | dT {a : Addr} {ks : List (List Key × V)} {es : List (PyData × PyData)} : Rd G a (.dT ks) → es.map (·.1) = ks.map (fun p => keysD p.1) → RepA K G (es.map (·.2)) (ks.map (·.2)) → Rep K G (.dict ((.none, .none) :: es)) (.ref a)
inductive RepA (K : PySem.W.Frag) (G : Hp) : List PyData → List V → Prop
  | nil : RepA K G [] []
  | cons {d : PyData} {ds : List PyData} {v : V} {vs : List V} : Rep K G d v → RepA K G ds vs → RepA K G (d :: ds) (v :: vs)
end
section
variable {K : PySem.W.Frag} {G G' H : Hp}
mutual
theorem Rep.mono (e : Ex G G') : ∀ {d : PyData} {v : V}, Rep K G d v → Rep K G' d v
  | _, _, .non => .non
  | _, _, .bl b => .bl b
  | _, _, .int i => .int i
  | _, _, .str x => .str x
  | _, _, .lst h r => .lst (e.rd h) (RepA.mono e r)
  | _, _, .tup h r => .tup (e _ _ h) (RepA.mono e r)
  | _, _, .dK h k r => .dK (e.rd h) k (RepA.mono e r)
  | _, _, .dT h k r => .dT (e.rd h) k (RepA.mono e r)
theorem RepA.mono (e : Ex G G') : ∀ {ds : List PyData} {vs : List V}, RepA K G ds vs → RepA K G' ds vs
  | _, _, .nil => .nil
  | _, _, .cons h r => .cons (Rep.mono e h) (RepA.mono e r)
end
theorem RepA.len : ∀ {ds : List PyData} {vs : List V}, RepA K G ds vs → ds.length = vs.length
  | _, _, .nil => rfl
  | _, _, .cons _ r => congrArg (· + 1) r.len
theorem RepA.get : ∀ {ds : List PyData} {vs : List V} {i : Nat} {d : PyData}, RepA K G ds vs → ds[i]? = some d → ∃ v, vs[i]? = some v ∧ Rep K G d v
  | _, _, _, _, .nil, e => by simp at e
  | _, _, 0, _, .cons h _, e => by simp at e; subst e; exact ⟨_, rfl, h⟩
  | _, _, i + 1, d, .cons _ r, e => by
    obtain ⟨v, h1, h2⟩ := RepA.get (i := i) (d := d) r (by simpa using e)
    exact ⟨v, by simpa using h1, h2⟩
theorem RepA.getV {ds : List PyData} {vs : List V} {i : Nat} {v : V} (r : RepA K G ds vs) (e : vs[i]? = some v) : ∃ d, ds[i]? = some d ∧ Rep K G d v := by
  have hi := (List.getElem?_eq_some_iff.mp e).1
  rw [← r.len] at hi
  obtain ⟨w, h1, h2⟩ := r.get (List.getElem?_eq_getElem hi)
  rw [e] at h1; cases h1
  exact ⟨_, List.getElem?_eq_getElem hi, h2⟩
theorem RepA.app : ∀ {ds es : List PyData} {vs us : List V}, RepA K G ds vs → RepA K G es us → RepA K G (ds ++ es) (vs ++ us)
  | _, _, _, _, .nil, s => s
  | _, _, _, _, .cons h r, s => .cons h (RepA.app r s)
theorem RepA.take : ∀ {ds : List PyData} {vs : List V} (n : Nat), RepA K G ds vs → RepA K G (ds.take n) (vs.take n)
  | _, _, 0, _ => .nil
  | _, _, _ + 1, .nil => .nil
  | _, _, n + 1, .cons h r => .cons h (RepA.take n r)
theorem RepA.drop : ∀ {ds : List PyData} {vs : List V} (n : Nat), RepA K G ds vs → RepA K G (ds.drop n) (vs.drop n)
  | _, _, 0, r => r
  | _, _, _ + 1, .nil => .nil
  | _, _, n + 1, .cons _ r => RepA.drop n r
theorem RepA.set : ∀ {ds : List PyData} {vs : List V} {d : PyData} {v : V} (i : Nat), RepA K G ds vs → Rep K G d v → RepA K G (ds.set i d) (vs.set i v)
  | _, _, _, _, _, .nil, _ => .nil
  | _, _, _, _, 0, .cons _ r, h => .cons h r
  | _, _, _, _, i + 1, .cons q r, h => .cons q (RepA.set i r h)
theorem RepA.reverse {ds : List PyData} {vs : List V} (r : RepA K G ds vs) : RepA K G ds.reverse vs.reverse := by
  induction ds generalizing vs with
  | nil => cases r; exact .nil
  | cons d ds ih =>
    cases r with
    | cons h r =>
      rw [List.reverse_cons, List.reverse_cons]
      exact (ih r).app (.cons h .nil)
/-- data made of ints -/
theorem RepA.ints (ns : List Int) : RepA K G (ns.map .int) (ns.map V.int) := by
  induction ns with
  | nil => exact .nil
  | cons n r ih => exact .cons (.int n) ih
theorem RepA.ofInts : ∀ {ns : List Int} {vs : List V}, RepA K G (ns.map .int) vs → vs = ns.map V.int
  | [], _, .nil => rfl
  | n :: r, _, .cons h t => by
    cases h
    rw [RepA.ofInts t]; rfl
theorem RepA.ofStrs : ∀ {ns : List Str} {vs : List V}, RepA K G (ns.map .str) vs → vs = ns.map V.str
  | [], _, .nil => rfl
  | n :: r, _, .cons h t => by
    cases h
    rw [RepA.ofStrs t]; rfl
theorem RepA.strs (ns : List Str) : RepA K G (ns.map .str) (ns.map V.str) := by
  induction ns with
  | nil => exact .nil
  | cons n r ih => exact .cons (.str n) ih

/-- what is read now: its root may be somebody's own -/
inductive RepB (K : PySem.W.Frag) (G H : Hp) : PyData → V → Prop
  | val {d : PyData} {v : V} : Rep K G d v → RepB K G H d v
  | lst {a : Addr} {vs : List V} {ds : List PyData} : H a = some (.lst vs) → RepA K G ds vs → RepB K G H (.list ds) (.ref a)
  | dK {a : Addr} {ks : List (Key × V)} {es : List (PyData × PyData)} : H a = some (.dK ks) → es.map (·.1) = ks.map (fun p => keyD p.1) → RepA K G (es.map (·.2)) (ks.map (·.2)) → RepB K G H (.dict es) (.ref a)
  | dT {a : Addr} {ks : List (List Key × V)} {es : List (PyData × PyData)} : H a = some (.dT ks) → es.map (·.1) = ks.map (fun p => keysD p.1) → RepA K G (es.map (·.2)) (ks.map (·.2)) → RepB K G H (.dict ((.none, .none) :: es)) (.ref a)
theorem RepB.mono {H' : Hp} (e : Ex G G') (e2 : Ex H H') {d : PyData} {v : V} (h : RepB K G H d v) : RepB K G' H' d v := by
  cases h with
  | val h => exact .val (h.mono e)
  | lst h r => exact .lst (e2 _ _ h) (r.mono e)
  | dK h k r => exact .dK (e2 _ _ h) k (r.mono e)
  | dT h k r => exact .dT (e2 _ _ h) k (r.mono e)

/-- the script, a list of ints that is read alone -/
def RepS (K : PySem.W.Frag) (H : Hp) (d : PyData) (v : V) : Prop := ∃ (a : Addr) (ns : List Int), v = .ref a ∧ d = .list (ns.map .int) ∧ SqL K H a (ns.map V.int)
theorem RepS.mono {H' : Hp} (e : Ex H H') {d : PyData} {v : V} (h : RepS K H d v) : RepS K H' d v := by
  obtain ⟨a, ns, e1, e2, q⟩ := h
  exact ⟨a, ns, e1, e2, e.sql q⟩
/-- what an own root holds -/
inductive Own (K : PySem.W.Frag) (G H : Hp) (a : Addr) : PyData → Prop
  | lst {vs : List V} {ds : List PyData} : H a = some (.lst vs) → RepA K G ds vs → Own K G H a (.list ds)
  | dK {ks : List (Key × V)} {es : List (PyData × PyData)} : H a = some (.dK ks) → es.map (·.1) = ks.map (fun p => keyD p.1) → RepA K G (es.map (·.2)) (ks.map (·.2)) → Own K G H a (.dict es)
  | dT {ks : List (List Key × V)} {es : List (PyData × PyData)} : H a = some (.dT ks) → es.map (·.1) = ks.map (fun p => keysD p.1) → RepA K G (es.map (·.2)) (ks.map (·.2)) → Own K G H a (.dict ((.none, .none) :: es))
theorem Own.mono {H' : Hp} {a : Addr} (e : Ex G G') (e2 : H' a = H a) {d : PyData} (h : Own K G H a d) : Own K G' H' a d := by
  cases h with
  | lst h r => exact .lst (e2.trans h) (r.mono e)
  | dK h k r => exact .dK (e2.trans h) k (r.mono e)
  | dT h k r => exact .dT (e2.trans h) k (r.mono e)
theorem Own.there {a : Addr} {d : PyData} (h : Own K G H a d) : ∃ o, H a = some o := by
  cases h with
  | lst h r => exact ⟨_, h⟩
  | dK h k r => exact ⟨_, h⟩
  | dT h k r => exact ⟨_, h⟩
theorem Own.bor {a : Addr} {d : PyData} (h : Own K G H a d) : RepB K G H d (.ref a) := by
  cases h with
  | lst h r => exact .lst h r
  | dK h k r => exact .dK h k r
  | dT h k r => exact .dT h k r
/-- frozen: the root goes over to G -/
theorem Own.freeze {a : Addr} {d : PyData} (h : Own K G H a d) (n : G a = none) : ∃ o, H a = some o ∧ Rep K (upd G a o) d (.ref a) := by
  cases h with
  | lst h r => exact ⟨_, h, .lst (.inl upd_same) (r.mono (Ex.new n))⟩
  | dK h k r => exact ⟨_, h, .dK (.inl upd_same) k (r.mono (Ex.new n))⟩
  | dT h k r => exact ⟨_, h, .dT (.inl upd_same) k (r.mono (Ex.new n))⟩
end

/-! ### slots -/
inductive Slot where
  | un | val (d : PyData) | bor (d : PyData) | own (d : PyData) | scr (d : PyData) | pin (d : PyData)
abbrev Rho := List Slot
inductive Out where
  | nx (r : Rho) | rt (d : PyData) | bk (r : Rho) | ct (r : Rho)
abbrev SE := Rho → Option PyData
abbrev SB := Rho → Option Bool
abbrev SA := Rho → Option (List PyData)
abbrev SS := Rho → Option Out

/-- how the heaps grow within a call: G0, H0 at its entry -/
structure Gx (G0 H0 G H : Hp) : Prop where
  g : Ex G0 G
  h : Ex H0 H
  gh : Ex G H
  nw : ∀ a, G a ≠ none → G0 a ≠ none ∨ H0 a = none
/-- a call's start: its ghost heap, and the lists that are lent to a loop, by slot -/
structure Fr where
  g : Hp
  b : Hp
  pin : Nat → Option (Addr × List V)
inductive SlotOk (K : PySem.W.Frag) (B H0 G H : Hp) : Slot → Option V → Prop
  | un {v : Option V} : SlotOk K B H0 G H .un v
  | val {d : PyData} {v : V} : Rep K G d v → SlotOk K B H0 G H (.val d) (some v)
  | bor {d : PyData} {v : V} : RepB K G B d v → SlotOk K B H0 G H (.bor d) (some v)
  | own {d : PyData} {a : Addr} : H0 a = none → G a = none → Own K G H a d → SlotOk K B H0 G H (.own d) (some (.ref a))
  | scr {d : PyData} {v : V} : RepS K B d v → SlotOk K B H0 G H (.scr d) (some v)
  | pin {d : PyData} {v : Option V} : SlotOk K B H0 G H (.pin d) v
structure Sok (K : PySem.W.Frag) (G0 : Fr) (H0 G : Hp) (ρ : Rho) (σ : St) (H : Hp) : Prop where
  gx : Gx G0.g H0 G H
  len : σ.length = ρ.length
  slot : ∀ (i : Nat) (s : Slot), ρ[i]? = some s → SlotOk K G0.b H0 G H s (σ[i]?.getD none)
  apart : ∀ (i j : Nat) (d e : PyData) (a : Addr), i ≠ j → ρ[i]? = some (.own d) → ρ[j]? = some (.own e) → σ[i]? = some (some (.ref a)) → σ[j]? ≠ some (some (.ref a))
  pins : ∀ (i : Nat) (d : PyData), ρ[i]? = some (.pin d) → ∃ a vs ds, G0.pin i = some (a, vs) ∧ σ[i]? = some (some (.ref a)) ∧ d = .list ds ∧ RepA K G ds vs
  base : Ex G0.b H0
  wf : ∀ (i : Nat) (a : Addr) (vs : List V), G0.pin i = some (a, vs) → H0 a = some (.lst vs)
section
variable {K : PySem.W.Frag} {G0 : Fr} {H0 G H G' H' : Hp} {ρ : Rho} {σ : St}
theorem getD_some {σ : L2.St} {i : Nat} {v : V} (h : σ[i]?.getD none = some v) : σ[i]? = some (some v) := by
  cases e : σ[i]? with
  | none => rw [e] at h; cases h
  | some o => rw [e] at h; exact congrArg _ h
/-- the heaps have grown, the slots are as they were -/
theorem Sok.grow (s : Sok K G0 H0 G ρ σ H) (e : Ex G G') (e2 : Ex H H') (e3 : Ex G' H') (nw : ∀ a, G' a ≠ none → G a ≠ none ∨ H a = none) : Sok K G0 H0 G' ρ σ H' := by
  refine ⟨⟨s.gx.g.trans e, s.gx.h.trans e2, e3, fun a ha => ?_⟩, s.len, fun i q hi => ?_, s.apart, fun i d hi => (s.pins i d hi).imp fun a h => h.imp fun vs h => h.imp fun ds ⟨p1, p2, p3, p4⟩ => ⟨p1, p2, p3, p4.mono e⟩, s.base, s.wf⟩
  · rcases nw a ha with h | h
    · exact s.gx.nw a h
    · exact .inr (s.gx.h.back h)
  · have h := s.slot i q hi
    revert h
    generalize σ[i]?.getD none = w
    intro h
    cases h with
    | un => exact .un
    | val h => exact .val (h.mono e)
    | bor h => exact .bor (h.mono e (Ex.refl _))
    | scr h => exact .scr h
    | pin => exact .pin
    | own h1 h2 h3 =>
      obtain ⟨o, ho⟩ := h3.there
      refine .own h1 ?_ (h3.mono e ((e2 _ _ ho).trans ho.symm))
      cases q : G' _ with
      | none => rfl
      | some u =>
        rcases nw _ (by rw [q]; simp) with z | z
        · exact absurd h2 z
        · rw [ho] at z; cases z
theorem Gx.refl (e : Ex G H) : Gx G H G H := ⟨Ex.refl _, Ex.refl _, e, fun _ h => .inl h⟩
theorem Gx.trans {G1 H1 G2 H2 G3 H3 : Hp} (a : Gx G1 H1 G2 H2) (b : Gx G2 H2 G3 H3) : Gx G1 H1 G3 H3 :=
  ⟨a.g.trans b.g, a.h.trans b.h, b.gh, fun x hx => (b.nw x hx).elim (a.nw x) fun z => .inr (a.h.back z)⟩
theorem Sok.gx' (s : Sok K G0 H0 G ρ σ H) (x : Gx G H G' H') : Sok K G0 H0 G' ρ σ H' := s.grow x.g x.h x.gh x.nw
/-- a new object that goes to G -/
theorem Gx.new {p : Addr} {o : HO} (e : Ex G H) (n : H p = none) : Gx G H (upd G p o) (upd H p o) := by
  have n2 := e.back n
  refine ⟨Ex.new n2, Ex.new n, e.upd2, fun a ha => ?_⟩
  by_cases q : a = p
  · subst q; exact .inr n
  · rw [upd_ne q] at ha; exact .inl ha
/-- a new object that is nobody's yet -/
theorem Gx.mine {p : Addr} {o : HO} (e : Ex G H) (n : H p = none) : Gx G H G (upd H p o) := ⟨Ex.refl _, Ex.new n, e.trans (Ex.new n), fun _ h => .inl h⟩
end

/-! ### what an expression gives -/
inductive Md where
  | val | par | bor | new | scr
  deriving DecidableEq
def RM (K : PySem.W.Frag) (H0 Hs : Hp) : Md → Hp → Hp → PyData → V → Prop
  | .val, G, _, d, v => Rep K G d v
  | .par, G, _, d, v => RepB K G H0 d v
  | .bor, G, H, d, v => RepB K G H d v
  | .new, G, H, d, v => ∃ p, v = .ref p ∧ Hs p = none ∧ G p = none ∧ Own K G H p d
  | .scr, _, H, d, v => RepS K H d v
section
variable {K : PySem.W.Frag} {G9 H0 G H G' H' Hs : Hp} {G0 : Fr} {ρ : Rho} {σ : L2.St} {d : PyData} {v : V}
theorem RM.mono {m : Md} (x : Gx G H G' H') (h : RM K H0 Hs m G H d v) : RM K H0 Hs m G' H' d v := by
  cases m with
  | val => exact Rep.mono x.g h
  | par => exact RepB.mono x.g (Ex.refl _) h
  | bor => exact RepB.mono x.g x.h h
  | scr => exact RepS.mono x.h h
  | new =>
    obtain ⟨p, e, n, g, o⟩ := h
    obtain ⟨u, hu⟩ := o.there
    refine ⟨p, e, n, ?_, o.mono x.g ((x.h _ _ hu).trans hu.symm)⟩
    cases q : G' p with
    | none => rfl
    | some w =>
      rcases x.nw p (by rw [q]; simp) with z | z
      · exact absurd g z
      · rw [hu] at z; cases z
theorem RM.start {m : Md} {H1 : Hp} (e : Ex H1 Hs) (h : RM K H0 Hs m G H d v) : RM K H0 H1 m G H d v := by
  cases m with
  | val => exact h
  | par => exact h
  | bor => exact h
  | scr => exact h
  | new =>
    obtain ⟨p, e1, n, g, o⟩ := h
    exact ⟨p, e1, e.back n, g, o⟩
theorem RM.bor {m : Md} (hm : m ≠ .scr) (e : Ex H0 H) (h : RM K H0 Hs m G H d v) : RepB K G H d v := by
  cases m with
  | val => exact .val h
  | par => exact RepB.mono (Ex.refl _) e h
  | bor => exact h
  | scr => exact absurd rfl hm
  | new =>
    obtain ⟨p, rfl, n, g, o⟩ := h
    exact o.bor
/-- frozen: a new one goes over to G -/
theorem RM.freeze (x : Gx G9 Hs G H) (h : RM K H0 Hs .new G H d v) : ∃ G', Gx G9 Hs G' H ∧ Ex G G' ∧ Rep K G' d v := by
  obtain ⟨p, rfl, n, g, o⟩ := h
  obtain ⟨u, hu, r⟩ := o.freeze g
  refine ⟨_, ⟨x.g.trans (Ex.new g), x.h, fun a w hw => ?_, fun a ha => ?_⟩, Ex.new g, r⟩
  · by_cases q : a = p
    · subst q; rw [upd_same] at hw; rw [hu]; exact hw
    · rw [upd_ne q] at hw; exact x.gh a w hw
  · by_cases q : a = p
    · subst q; exact .inr n
    · rw [upd_ne q] at ha; exact x.nw a ha

/-! ### slots are stored -/
theorem getD_set {σ : L2.St} {i j : Nat} {o : Option V} (hi : i < σ.length) : (σ.set i o)[j]?.getD none = if j = i then o else σ[j]?.getD none := by
  by_cases h : j = i
  · subst h; rw [if_pos rfl, List.getElem?_set_self hi]; rfl
  · rw [if_neg h, List.getElem?_set_ne (Ne.symm h)]
theorem Sok.put (s : Sok K G0 H0 G ρ σ H) {i : Nat} {t : Slot} {o : Option V} (hi : i < ρ.length) (h : SlotOk K G0.b H0 G H t o)
    (ap : ∀ d a, t = .own d → o = some (.ref a) → ∀ j e, j ≠ i → ρ[j]? = some (.own e) → σ[j]? ≠ some (some (.ref a))) (np : ∀ d, t ≠ .pin d := by intro _ z; cases z) : Sok K G0 H0 G (ρ.set i t) (σ.set i o) H := by
  have hi' : i < σ.length := by rw [s.len]; exact hi
  refine ⟨s.gx, by rw [List.length_set, List.length_set, s.len], fun j q hj => ?_, fun j k d e a hjk h1 h2 h3 h4 => ?_, fun j d hj => ?_, s.base, s.wf⟩
  · rw [getD_set hi']
    by_cases z : j = i
    · subst z
      rw [List.getElem?_set_self hi] at hj
      cases hj
      rw [if_pos rfl]; exact h
    · rw [List.getElem?_set_ne (Ne.symm z)] at hj
      rw [if_neg z]; exact s.slot j q hj
  · by_cases z : j = i
    · subst z
      rw [List.getElem?_set_self hi] at h1
      cases h1
      rw [List.getElem?_set_self hi'] at h3
      cases h3
      rw [List.getElem?_set_ne (fun z => hjk z)] at h2 h4
      exact ap d a rfl rfl k e (fun z => hjk z.symm) h2 h4
    · rw [List.getElem?_set_ne (Ne.symm z)] at h1 h3
      by_cases y : k = i
      · subst y
        rw [List.getElem?_set_self hi] at h2
        cases h2
        rw [List.getElem?_set_self hi'] at h4
        cases h4
        exact ap e a rfl rfl j d z h1 h3
      · rw [List.getElem?_set_ne (Ne.symm y)] at h2 h4
        exact s.apart j k d e a hjk h1 h2 h3 h4
  · by_cases z : j = i
    · subst z
      rw [List.getElem?_set_self hi] at hj
      cases hj
      exact absurd rfl (np d)
    · rw [List.getElem?_set_ne (Ne.symm z)] at hj ⊢
      exact s.pins j d hj
theorem Sok.setVal (s : Sok K G0 H0 G ρ σ H) {i : Nat} (hi : i < ρ.length) (h : Rep K G d v) : Sok K G0 H0 G (ρ.set i (.val d)) (σ.set i (some v)) H :=
  s.put hi (.val h) fun _ _ e => by cases e
theorem Sok.setUn (s : Sok K G0 H0 G ρ σ H) {i : Nat} (hi : i < ρ.length) (o : Option V) : Sok K G0 H0 G (ρ.set i .un) (σ.set i o) H :=
  s.put hi .un fun _ _ e => by cases e
/-- the root of an own slot -/
theorem Sok.own (s : Sok K G0 H0 G ρ σ H) {i : Nat} (h : ρ[i]? = some (.own d)) : ∃ a, σ[i]? = some (some (.ref a)) ∧ H0 a = none ∧ G a = none ∧ Own K G H a d := by
  have q := s.slot i _ h
  generalize e : σ[i]?.getD none = w at q
  cases q with
  | own h1 h2 h3 => exact ⟨_, getD_some e, h1, h2, h3⟩
theorem Sok.setOwn (s : Sok K G0 H0 G ρ σ H) (x : Gx G H G' H') {i : Nat} (hi : i < ρ.length) (h : RM K H0 H .new G' H' d v) : Sok K G0 H0 G' (ρ.set i (.own d)) (σ.set i (some v)) H' := by
  obtain ⟨p, rfl, n, g, o⟩ := h
  refine (s.gx' x).put hi (.own (s.gx.h.back n) g o) fun d' a e1 e2 j e hj h1 h2 => ?_
  cases e2
  obtain ⟨b, k1, _, _, k4⟩ := s.own h1
  obtain ⟨u, hu⟩ := k4.there
  rw [h2] at k1; cases k1
  rw [n] at hu; cases hu
/-- an own object changes -/
theorem Sok.write (s : Sok K G0 H0 G ρ σ H) {i : Nat} {a : Addr} {o : HO} {d' : PyData} (h : ρ[i]? = some (.own d)) (ha : σ[i]? = some (some (.ref a))) (hn : H0 a = none) (hg : G a = none) (ow : Own K G (upd H a o) a d') : Sok K G0 H0 G (ρ.set i (.own d')) σ (upd H a o) := by
  have hi : i < ρ.length := (List.getElem?_eq_some_iff.mp h).1
  refine ⟨⟨s.gx.g, s.gx.h.mut hn, s.gx.gh.mut hg, s.gx.nw⟩, by rw [List.length_set]; exact s.len, fun j q hj => ?_, fun j k d1 e b hjk h1 h2 h3 h4 => ?_, fun j d hj => ?_, s.base, s.wf⟩
  · by_cases z : j = i
    · subst z
      rw [List.getElem?_set_self hi] at hj
      cases hj
      rw [ha]
      exact .own hn hg ow
    · rw [List.getElem?_set_ne (Ne.symm z)] at hj
      have q2 := s.slot j q hj
      generalize e : σ[j]?.getD none = w at q2
      cases q2 with
      | un => exact .un
      | val h => exact .val h
      | bor h => exact .bor h
      | scr h => exact .scr h
      | pin => exact .pin
      | own k1 k2 k3 =>
        refine .own k1 k2 (k3.mono (Ex.refl _) ?_)
        rw [upd_ne]
        rintro rfl
        exact s.apart i j _ _ _ (fun z' => z z'.symm) h hj ha (getD_some e)
  · have own_of : ∀ {j : Nat} {e : PyData}, (ρ.set i (.own d'))[j]? = some (.own e) → ∃ e', ρ[j]? = some (.own e') := fun {j e} q => by
      by_cases z : j = i
      · subst z; exact ⟨_, h⟩
      · rw [List.getElem?_set_ne (Ne.symm z)] at q; exact ⟨_, q⟩
    obtain ⟨_, q1⟩ := own_of h1
    obtain ⟨_, q2⟩ := own_of h2
    exact s.apart j k _ _ b hjk q1 q2 h3 h4
  · by_cases z : j = i
    · subst z
      rw [List.getElem?_set_self hi] at hj; cases hj
    · rw [List.getElem?_set_ne (Ne.symm z)] at hj; exact s.pins j d hj
/-- an own object is frozen -/
theorem Sok.freeze (s : Sok K G0 H0 G ρ σ H) {i : Nat} (h : ρ[i]? = some (.own d)) : ∃ G', Gx G0.g H0 G' H ∧ Ex G G' ∧ Sok K G0 H0 G' (ρ.set i (.val d)) σ H := by
  have hi : i < ρ.length := (List.getElem?_eq_some_iff.mp h).1
  obtain ⟨a, ha, hn, hg, ow⟩ := s.own h
  obtain ⟨u, hu, r⟩ := ow.freeze hg
  have gx : Gx G0.g H0 (upd G a u) H := ⟨s.gx.g.trans (Ex.new hg), s.gx.h, fun b w hw => by
    by_cases q : b = a
    · subst q; rw [upd_same] at hw; rw [hu]; exact hw
    · rw [upd_ne q] at hw; exact s.gx.gh b w hw, fun b hb => by
    by_cases q : b = a
    · subst q; exact .inr hn
    · rw [upd_ne q] at hb; exact s.gx.nw b hb⟩
  refine ⟨_, gx, Ex.new hg, gx, by rw [List.length_set]; exact s.len, fun j q hj => ?_, fun j k d1 e b hjk h1 h2 h3 h4 => ?_, fun j d hj => ?_, s.base, s.wf⟩
  · by_cases z : j = i
    · subst z
      rw [List.getElem?_set_self hi] at hj
      cases hj
      rw [ha]
      exact .val r
    · rw [List.getElem?_set_ne (Ne.symm z)] at hj
      have q2 := s.slot j q hj
      generalize e : σ[j]?.getD none = w at q2
      cases q2 with
      | un => exact .un
      | val h => exact .val (h.mono (Ex.new hg))
      | bor h => exact .bor (h.mono (Ex.new hg) (Ex.refl _))
      | scr h => exact .scr h
      | pin => exact .pin
      | @own d2 c k1 k2 k3 =>
        refine .own k1 ?_ (k3.mono (Ex.new hg) rfl)
        rw [upd_ne]
        · exact k2
        · rintro rfl
          exact s.apart i j _ _ _ (fun z' => z z'.symm) h hj ha (getD_some e)
  · have own_of : ∀ {j : Nat} {e : PyData}, (ρ.set i (.val d))[j]? = some (.own e) → ρ[j]? = some (.own e) := fun {j e} q => by
      by_cases z : j = i
      · subst z; rw [List.getElem?_set_self hi] at q; cases q
      · rw [List.getElem?_set_ne (Ne.symm z)] at q; exact q
    exact s.apart j k _ _ b hjk (own_of h1) (own_of h2) h3 h4
  · by_cases z : j = i
    · subst z
      rw [List.getElem?_set_self hi] at hj; cases hj
    · rw [List.getElem?_set_ne (Ne.symm z)] at hj; exact (s.pins j d hj).imp fun a h => h.imp fun vs h => h.imp fun ds ⟨p1, p2, p3, p4⟩ => ⟨p1, p2, p3, p4.mono (Ex.new hg)⟩
end
end DV

namespace DV
open PySem L2
theorem _root_.L2.PE.imp {X : Cx} {e : Expr} {t t' : TE} (h : PE X e t) (w : ∀ σ H Q, t' σ H Q → t σ H Q) : PE X e t' := ⟨fun pins s σ H Q I q => h.run pins s σ H Q I (w σ H Q q)⟩
theorem _root_.L2.PT.imp {X : Cx} {e : Expr} {t t' : TT} (h : PT X e t) (w : ∀ σ H Q, t' σ H Q → t σ H Q) : PT X e t' := ⟨fun pins s σ H Q I q => h.run pins s σ H Q I (w σ H Q q)⟩
theorem _root_.L2.PW.imp {X : Cx} {e : Expr} {t t' : TT} (h : PW X e t) (w : ∀ σ H Q, t' σ H Q → t σ H Q) : PW X e t' := ⟨fun wh pins s σ H Q I q => h.run wh pins s σ H Q I (w σ H Q q)⟩
theorem _root_.L2.PA.imp {X : Cx} {e : List Expr} {t t' : TA} (h : PA X e t) (w : ∀ σ H Q, t' σ H Q → t σ H Q) : PA X e t' := ⟨fun pos pins s σ H Q I q => h.run pos pins s σ H Q I (w σ H Q q)⟩
theorem _root_.L2.PS.imp {X : Cx} {e : Stmt} {t t' : TS} (h : PS X e t) (w : ∀ D σ H, t' D σ H → t D σ H) : PS X e t' := ⟨fun pins s σ H D I q => h.run pins s σ H D I (w D σ H q)⟩
theorem _root_.L2.PSs.imp {X : Cx} {e : List Stmt} {t t' : TS} (h : PSs X e t) (w : ∀ D σ H, t' D σ H → t D σ H) : PSs X e t' := ⟨fun pins s σ H D I q => h.run pins s σ H D I (w D σ H q)⟩

/-! ### expressions, tests, arguments -/
def tE (K : PySem.W.Frag) (m : Md) (f : SE) : TE := fun σ H Q => ∃ G0 H0 G ρ d, Sok K G0 H0 G ρ σ H ∧ f ρ = some d ∧ ∀ G' H' v, Gx G H G' H' → RM K H0 H m G' H' d v → Q v H'
def tT (K : PySem.W.Frag) (f : SB) : TT := fun σ H Q => ∃ G0 H0 G ρ d, Sok K G0 H0 G ρ σ H ∧ f ρ = some d ∧ ∀ G' H', Gx G H G' H' → Q d H'
inductive RMs (K : PySem.W.Frag) (H0 Hs G H : Hp) : List Md → List PyData → List V → Prop
  | nil : RMs K H0 Hs G H [] [] []
  | cons {m : Md} {ms : List Md} {d : PyData} {ds : List PyData} {v : V} {vs : List V} : RM K H0 Hs m G H d v → RMs K H0 Hs G H ms ds vs → RMs K H0 Hs G H (m :: ms) (d :: ds) (v :: vs)
def tA (K : PySem.W.Frag) (ms : List Md) (f : SA) : TA := fun σ H Q => ∃ G0 H0 G ρ ds, Sok K G0 H0 G ρ σ H ∧ f ρ = some ds ∧ ∀ G' H' vs, Gx G H G' H' → RMs K H0 H G' H' ms ds vs → Q vs H'
structure DX (X : Cx) (m : Md) (e : Expr) (f : SE) : Prop where
  pe : PE X e (tE X.K m f)
structure DT (X : Cx) (e : Expr) (f : SB) : Prop where
  pt : PT X e (tT X.K f)
structure DW (X : Cx) (e : Expr) (f : SB) : Prop where
  pw : PW X e (tT X.K f)
structure DA (X : Cx) (ms : List Md) (es : List Expr) (f : SA) : Prop where
  pa : PA X es (tA X.K ms f)
section
variable {K : PySem.W.Frag} {G0 H0 G H G' H' Hs : Hp} {ρ : Rho} {σ : L2.St} {d : PyData} {v : V}
theorem RMs.mono (x : Gx G H G' H') : ∀ {ms : List Md} {ds : List PyData} {vs : List V}, RMs K H0 Hs G H ms ds vs → RMs K H0 Hs G' H' ms ds vs
  | _, _, _, .nil => .nil
  | _, _, _, .cons h t => .cons (h.mono x) (t.mono x)
theorem RMs.start {H1 : Hp} (e : Ex H1 Hs) : ∀ {ms : List Md} {ds : List PyData} {vs : List V}, RMs K H0 Hs G H ms ds vs → RMs K H0 H1 G H ms ds vs
  | _, _, _, .nil => .nil
  | _, _, _, .cons h t => .cons (h.start e) (t.start e)
theorem RMs.vals : ∀ {ms : List Md} {ds : List PyData} {vs : List V}, (∀ m ∈ ms, m = .val) → RMs K H0 Hs G H ms ds vs → RepA K G ds vs
  | _, _, _, _, .nil => .nil
  | m :: _, _, _, q, .cons h t => by
    have e : m = .val := q m List.mem_cons_self
    subst e
    exact .cons h (RMs.vals (fun m hm => q m (List.mem_cons_of_mem _ hm)) t)
end
section
variable {X : Cx} {e a b c : Expr} {m : Md} {f g h : SE} {pos : Pos}

/-! ### modes -/
theorem d_fz (h : DX X .new e f) : DX X .val e f := ⟨h.pe.imp fun σ H Q ⟨G0, H0, G, ρ, d, s, ed, q⟩ => ⟨G0, H0, G, ρ, d, s, ed, fun G' H' v x r => by
  obtain ⟨G2, x2, _, r2⟩ := RM.freeze x r
  exact q G2 H' v x2 r2⟩⟩
theorem d_b (h : DX X m e f) (hm : m ≠ .scr := by decide) : DX X .bor e f := ⟨h.pe.imp fun σ H Q ⟨G0, H0, G, ρ, d, s, ed, q⟩ => ⟨G0, H0, G, ρ, d, s, ed, fun G' H' v x r => q G' H' v x (r.bor hm (s.gx.h.trans x.h))⟩⟩

theorem if_some {c : Prop} [Decidable c] {α : Type} {a b : α} (h : (if c then some a else none) = some b) : c ∧ a = b := by
  split at h
  · exact ⟨by assumption, Option.some.inj h⟩
  · cases h
/-! ### names and constants -/
def eV (i : Nat) : SE := fun ρ => match ρ[i]? with
  | some (.val d) => some d
  | _ => none
def eB (i : Nat) : SE := fun ρ => match ρ[i]? with
  | some (.val d) => some d
  | some (.bor d) => some d
  | some (.own d) => some d
  | some (.pin d) => some d
  | _ => none
def eK (d : PyData) : SE := fun _ => some d
theorem d_var (i : Nat) {x : Str} {pos : Pos} (hN : X.N[i]? = some x := by rfl) (hv : Vis X.env.scope x := by first | exact Or.inl rfl | exact Or.inr (Or.inl rfl) | exact Or.inr (Or.inr rfl)) (hd : (x == ("__debug__" : Str)) = false := by decide)
    (hcd : (x == ("__classdict__" : Str)) = false := by decide) : DX X .val (.Name x pos) (eV i) := ⟨(pe_var hN hv hd hcd).imp fun σ H Q ⟨G0, H0, G, ρ, d, s, ed, q⟩ => by
  unfold eV at ed
  cases e1 : ρ[i]? with
  | none => rw [e1] at ed; cases ed
  | some t =>
    rw [e1] at ed
    have h := s.slot i t e1
    cases t with
    | val d' =>
      cases ed
      generalize e2 : σ[i]?.getD none = w at h
      cases h with
      | val h => exact ⟨_, getD_some e2, q G H _ (Gx.refl s.gx.gh) h⟩
    | un => cases ed
    | bor _ => cases ed
    | scr _ => cases ed
    | own _ => cases ed
    | pin _ => cases ed⟩
theorem d_varb (i : Nat) {x : Str} {pos : Pos} (hN : X.N[i]? = some x := by rfl) (hv : Vis X.env.scope x := by first | exact Or.inl rfl | exact Or.inr (Or.inl rfl) | exact Or.inr (Or.inr rfl)) (hd : (x == ("__debug__" : Str)) = false := by decide)
    (hcd : (x == ("__classdict__" : Str)) = false := by decide) : DX X .bor (.Name x pos) (eB i) := ⟨(pe_var hN hv hd hcd).imp fun σ H Q ⟨G0, H0, G, ρ, d, s, ed, q⟩ => by
  unfold eB at ed
  cases e1 : ρ[i]? with
  | none => rw [e1] at ed; cases ed
  | some t =>
    rw [e1] at ed
    have h := s.slot i t e1
    generalize e2 : σ[i]?.getD none = w at h
    cases t with
    | un => cases ed
    | val d' =>
      cases ed
      cases h with
      | val h => exact ⟨_, getD_some e2, q G H _ (Gx.refl s.gx.gh) (.val h)⟩
    | bor d' =>
      cases ed
      cases h with
      | bor h => exact ⟨_, getD_some e2, q G H _ (Gx.refl s.gx.gh) (h.mono (Ex.refl _) (s.base.trans s.gx.h))⟩
    | scr _ => cases ed
    | own d' =>
      cases ed
      cases h with
      | own h1 h2 h3 => exact ⟨_, getD_some e2, q G H _ (Gx.refl s.gx.gh) h3.bor⟩
    | pin d' =>
      cases ed
      obtain ⟨a, vs, ds, p1, p2, rfl, p4⟩ := s.pins i _ e1
      exact ⟨_, p2, q G H _ (Gx.refl s.gx.gh) (.lst (s.gx.h _ _ (s.wf _ _ _ p1)) p4)⟩⟩
/-- a name that holds an argument (or a frozen thing): it stays as it is through the call -/
def eP (i : Nat) : SE := fun ρ => match ρ[i]? with
  | some (.val d) => some d
  | some (.bor d) => some d
  | some (.pin d) => some d
  | _ => none
theorem d_varp (i : Nat) {x : Str} {pos : Pos} (hN : X.N[i]? = some x := by rfl) (hv : Vis X.env.scope x := by first | exact Or.inl rfl | exact Or.inr (Or.inl rfl) | exact Or.inr (Or.inr rfl)) (hd : (x == ("__debug__" : Str)) = false := by decide)
    (hcd : (x == ("__classdict__" : Str)) = false := by decide) : DX X .par (.Name x pos) (eP i) := ⟨(pe_var hN hv hd hcd).imp fun σ H Q ⟨G0, H0, G, ρ, d, s, ed, q⟩ => by
  unfold eP at ed
  cases e1 : ρ[i]? with
  | none => rw [e1] at ed; cases ed
  | some t =>
    rw [e1] at ed
    have h := s.slot i t e1
    generalize e2 : σ[i]?.getD none = w at h
    cases t with
    | un => cases ed
    | val d' =>
      cases ed
      cases h with
      | val h => exact ⟨_, getD_some e2, q G H _ (Gx.refl s.gx.gh) (.val h)⟩
    | bor d' =>
      cases ed
      cases h with
      | bor h => exact ⟨_, getD_some e2, q G H _ (Gx.refl s.gx.gh) (h.mono (Ex.refl _) s.base)⟩
    | scr _ => cases ed
    | pin d' =>
      cases ed
      obtain ⟨a, vs, ds, p1, p2, rfl, p4⟩ := s.pins i _ e1
      exact ⟨_, p2, q G H _ (Gx.refl s.gx.gh) (.lst (s.wf _ _ _ p1) p4)⟩
    | own d' => cases ed⟩
/-- the script -/
def eS (i : Nat) : SE := fun ρ => match ρ[i]? with
  | some (.scr d) => some d
  | _ => none
theorem d_vars (i : Nat) {x : Str} {pos : Pos} (hN : X.N[i]? = some x := by rfl) (hv : Vis X.env.scope x := by first | exact Or.inl rfl | exact Or.inr (Or.inl rfl) | exact Or.inr (Or.inr rfl)) (hd : (x == ("__debug__" : Str)) = false := by decide)
    (hcd : (x == ("__classdict__" : Str)) = false := by decide) : DX X .scr (.Name x pos) (eS i) := ⟨(pe_var hN hv hd hcd).imp fun σ H Q ⟨G0, H0, G, ρ, d, s, ed, q⟩ => by
  unfold eS at ed
  split at ed
  · rename_i d' h
    cases ed
    have z := s.slot i _ h
    generalize e2 : σ[i]?.getD none = w at z
    cases z with
    | scr h => exact ⟨_, getD_some e2, q G H _ (Gx.refl s.gx.gh) (h.mono (s.base.trans s.gx.h))⟩
  · cases ed⟩
theorem d_const {v : V} {d : PyData} (h : PE X e (tC v)) (r : ∀ G, Rep X.K G d v) : DX X .val e (eK d) := ⟨h.imp fun σ H Q ⟨G0, H0, G, ρ, d', s, ed, q⟩ => by
  cases ed
  exact q G H v (Gx.refl s.gx.gh) (r G)⟩
theorem d_int {i j pos} : DX X .val (.Constant (.int i) j pos) (eK (.int i)) := d_const pe_int fun _ => .int i
theorem d_bl {b j pos} : DX X .val (.Constant (.bool b) j pos) (eK (.bool b)) := d_const pe_bl fun _ => .bl b
theorem d_non {j pos} : DX X .val (.Constant .none j pos) (eK .none) := d_const pe_non fun _ => .non
theorem d_str {x j pos} : DX X .val (.Constant (.str x) j pos) (eK (.str x)) := d_const pe_str fun _ => .str x

/-! ### operators -/
/-- a partial function on data that the rule r keeps -/
def OpF (K : PySem.W.Frag) (m : Md) (r : R2) (F : PyData → PyData → Option PyData) : Prop :=
  ∀ (G H : Hp) (d1 d2 d : PyData) (x y : V) (Q : VK), Ex G H → RepB K G H d1 x → RepB K G H d2 y → F d1 d2 = some d → (∀ G' H' v, Gx G H G' H' → (∀ H0, RM K H0 H m G' H' d v) → Q v H') → r x y H Q
def UnF (K : PySem.W.Frag) (m : Md) (r : V → Hp → VK → Prop) (F : PyData → Option PyData) : Prop :=
  ∀ (G H : Hp) (d1 d : PyData) (x : V) (Q : VK), Ex G H → RepB K G H d1 x → F d1 = some d → (∀ G' H' v, Gx G H G' H' → (∀ H0, RM K H0 H m G' H' d v) → Q v H') → r x H Q
def eOp (F : PyData → PyData → Option PyData) (f g : SE) : SE := fun ρ => (f ρ).bind fun x => (g ρ).bind fun y => F x y
def eUn (F : PyData → Option PyData) (f : SE) : SE := fun ρ => (f ρ).bind F
theorem bind_some {α β : Type} {o : Option α} {k : α → Option β} {b : β} (h : o.bind k = some b) : ∃ a, o = some a ∧ k a = some b := by
  cases o with
  | none => cases h
  | some a => exact ⟨a, rfl, h⟩
/-- the two places of an operator -/
theorem op_two {r : R2} {F : PyData → PyData → Option PyData} (hF : OpF X.K m r F) {σ : L2.St} {H : Hp} {Q : VK} (q : tE X.K m (eOp F f g) σ H Q) : tOp r (tE X.K .bor f) (tE X.K .bor g) σ H Q := by
  obtain ⟨G0, H0, G, ρ, d, s, ed, q⟩ := q
  obtain ⟨d1, e1, ed⟩ := bind_some ed
  obtain ⟨d2, e2, ed⟩ := bind_some ed
  refine ⟨G0, H0, G, ρ, d1, s, e1, fun G1 H1 x gx1 r1 => ⟨G0, H0, G1, ρ, d2, s.gx' gx1, e2, fun G2 H2 y gx2 r2 => ?_⟩⟩
  have gx := gx1.trans gx2
  exact hF G2 H2 d1 d2 d x y Q gx2.gh (RM.mono (m := .bor) (H0 := H0) (Hs := H) gx2 r1) r2 ed fun G3 H3 v gx3 r3 => q G3 H3 v (gx.trans gx3) ((r3 H0).start gx.h)
theorem d_op {op : Operator} {r : R2} {F : PyData → PyData → Option PyData} (ho : OpR X (binaryOp op) r) (hF : OpF X.K m r F) (ha : DX X .bor a f) (hb : DX X .bor b g) : DX X m (.BinOp a op b pos) (eOp F f g) :=
  ⟨(pe_op ho ha.pe hb.pe).imp fun _ _ _ q => op_two hF q⟩
theorem d_un {op : UnaryOp} {r : V → Hp → VK → Prop} {F : PyData → Option PyData} (ho : UnR X (unaryOp op) r) (hF : UnF X.K m r F) (ha : DX X .bor a f) : DX X m (.UnaryOp op a pos) (eUn F f) :=
  ⟨(pe_un ho ha.pe).imp fun σ H Q ⟨G0, H0, G, ρ, d, s, ed, q⟩ => by
    obtain ⟨d1, e1, ed⟩ := bind_some ed
    exact ⟨G0, H0, G, ρ, d1, s, e1, fun G1 H1 x gx1 r1 => hF G1 H1 d1 d x Q gx1.gh r1 ed fun G3 H3 v gx3 r3 => q G3 H3 v (gx1.trans gx3) ((r3 H0).start gx1.h)⟩⟩
theorem d_cmp {op : CmpOp} {r : R2} {F : PyData → PyData → Option PyData} (ho : OpR X (compareOp op) r) (hF : OpF X.K .val r F) (ha : DX X .bor a f) (hb : DX X .bor b g) (hm : behindInMarks op b = false) : DX X .val (.Compare a [op] [b] pos) (eOp F f g) :=
  ⟨(pe_cmpR ho ha.pe hb.pe hm).imp fun _ _ _ q => op_two hF q⟩
def asB : PyData → Option Bool
  | .bool b => some b
  | _ => none
def bT (f : SE) : SB := fun ρ => (f ρ).bind asB
theorem asB_some : ∀ {d : PyData} {k : Bool}, asB d = some k → d = .bool k
  | .bool _, _, h => congrArg _ (Option.some.inj h)
theorem tTest_of {t : TE} {f : SE} (w : ∀ σ H Q, tE X.K .val f σ H Q → t σ H Q) : ∀ σ H Q, tT X.K (bT f) σ H Q → tTest t σ H Q := fun σ H Q ⟨G0, H0, G, ρ, k, s, ed, q⟩ => by
  obtain ⟨d, e1, e2⟩ := bind_some ed
  cases asB_some e2
  exact w σ H _ ⟨G0, H0, G, ρ, _, s, e1, fun G' H' v gx r => by
    cases (show Rep X.K G' (.bool k) v from r)
    exact ⟨k, rfl, q G' H' gx⟩⟩
theorem t_cmp {op : CmpOp} {r : R2} {F : PyData → PyData → Option PyData} (ho : OpR X (compareOp op) r) (hF : OpF X.K .val r F) (ha : DX X .bor a f) (hb : DX X .bor b g) (hm : behindInMarks op b = false) : DT X (.Compare a [op] [b] pos) (bT (eOp F f g)) :=
  ⟨(pt_cmpR ho ha.pe hb.pe hm).imp (tTest_of fun _ _ _ q => op_two hF q)⟩
def eChain (F F' : PyData → PyData → Option PyData) (f g h : SE) : SE := fun ρ => (f ρ).bind fun x => (g ρ).bind fun y => (F x y).bind fun z => match z with
  | .bool true => (h ρ).bind fun w => F' y w
  | .bool false => some (.bool false)
  | _ => none
theorem chain_two {r r' : R2} {F F' : PyData → PyData → Option PyData} (hF : OpF X.K .val r F) (hF' : OpF X.K .val r' F') {σ : L2.St} {H : Hp} {Q : VK} (q : tE X.K .val (eChain F F' f g h) σ H Q) : tChain r r' (tE X.K .bor f) (tE X.K .bor g) (tE X.K .bor h) σ H Q := by
  obtain ⟨G0, H0, G, ρ, d, s, ed, q⟩ := q
  obtain ⟨d1, e1, ed⟩ := bind_some ed
  obtain ⟨d2, e2, ed⟩ := bind_some ed
  obtain ⟨d3, e3, ed⟩ := bind_some ed
  refine ⟨G0, H0, G, ρ, d1, s, e1, fun G1 H1 x gx1 r1 => ⟨G0, H0, G1, ρ, d2, s.gx' gx1, e2, fun G2 H2 y gx2 r2 => ?_⟩⟩
  have gx := gx1.trans gx2
  refine hF G2 H2 d1 d2 d3 x y _ gx2.gh (RM.mono (m := .bor) (H0 := H0) (Hs := H) gx2 r1) r2 e3 fun G3 H3 v gx3 r3 => ?_
  have gx4 := gx.trans gx3
  cases d3 with
  | bool k =>
    cases (show Rep X.K G3 (.bool k) v from r3 H0)
    refine ⟨k, rfl, ?_⟩
    cases k with
    | false =>
      rw [if_neg Bool.false_ne_true]
      cases ed
      exact q G3 H3 _ gx4 (.bl false)
    | true =>
      rw [if_pos rfl]
      obtain ⟨d4, e4, ed⟩ := bind_some ed
      refine ⟨G0, H0, G3, ρ, d4, s.gx' gx4, e4, fun G5 H5 w gx5 r5 => ?_⟩
      exact hF' G5 H5 d2 d4 d y w Q gx5.gh (RM.mono (m := .bor) (H0 := H0) (Hs := H) (gx3.trans gx5) r2) r5 ed fun G6 H6 v' gx6 r6 => q G6 H6 v' ((gx4.trans gx5).trans gx6) (r6 H0)
  | _ => cases ed
theorem d_chain {op op' : CmpOp} {r r' : R2} {F F' : PyData → PyData → Option PyData} (ho : OpR X (compareOp op) r) (hF : OpF X.K .val r F) (ho' : OpR X (compareOp op') r') (hF' : OpF X.K .val r' F') (ha : DX X .bor a f) (hb : DX X .bor b g) (hc : DX X .bor c h)
    (hm : lastMarks [op, op'] [b, c] = false := by with_unfolding_all rfl) : DX X .val (.Compare a [op, op'] [b, c] pos) (eChain F F' f g h) :=
  ⟨(pe_chain ho ho' ha.pe hb.pe hc.pe hm).imp fun _ _ _ q => chain_two hF hF' q⟩
theorem t_chain {op op' : CmpOp} {r r' : R2} {F F' : PyData → PyData → Option PyData} (ho : OpR X (compareOp op) r) (hF : OpF X.K .val r F) (ho' : OpR X (compareOp op') r') (hF' : OpF X.K .val r' F') (ha : DX X .bor a f) (hb : DX X .bor b g) (hc : DX X .bor c h)
    (hm : lastMarks [op, op'] [b, c] = false := by with_unfolding_all rfl) : DT X (.Compare a [op, op'] [b, c] pos) (bT (eChain F F' f g h)) :=
  ⟨(pt_chain ho ho' ha.pe hb.pe hc.pe hm).imp (tTest_of fun _ _ _ q => chain_two hF hF' q)⟩

/-! ### truth; and, or, not -/
def truth : PyData → Option Bool
  | .none => some false
  | .bool b => some b
  | .int i => some (i != 0)
  | .str x => if x.length ≤ sizeLine then some ((x.length : Int) != 0) else none
  | .list xs => some (!xs.isEmpty)
  | .tuple xs => some (!xs.isEmpty)
  | _ => none
theorem RepA.isEmpty {K : PySem.W.Frag} {G : Hp} {ds : List PyData} {vs : List V} (r : RepA K G ds vs) : vs.isEmpty = ds.isEmpty := by cases r <;> rfl
theorem truth_ok {K : PySem.W.Frag} {G H : Hp} (e : Ex G H) {d : PyData} {x : V} {k : Bool} (r : RepB K G H d x) (h : truth d = some k) : TruV K x H k := by
  cases r with
  | lst hl ra =>
    cases h
    exact .inl ⟨_, SqL.of hl, by rw [ra.isEmpty]⟩
  | dK _ _ _ => cases h
  | dT _ _ _ => cases h
  | val r =>
    cases r with
    | non => cases h; rfl
    | bl b => cases h; rfl
    | int i => cases h; rfl
    | str y =>
      have h' : (if y.length ≤ sizeLine then some ((y.length : Int) != 0) else none) = some k := h
      obtain ⟨h1, h2⟩ := if_some h'
      exact ⟨h1, h2.symm⟩
    | lst hl ra =>
      cases h
      exact .inl ⟨_, .inl (e.rd hl), by rw [ra.isEmpty]⟩
    | tup hl ra =>
      cases h
      exact .inr (.inl ⟨_, e.sqt (sqtOf hl), by rw [ra.isEmpty]⟩)
    | dK _ _ _ => cases h
    | dT _ _ _ => cases h
def bV (f : SE) : SB := fun ρ => (f ρ).bind truth
theorem t_val (ha : DX X .bor a f) (he : ∀ whole, isTrue a X.env whole = (do let v ← whole; standAt a.pos; holding [v] (truthy v)) := by intro _; rfl) : DT X a (bV f) :=
  ⟨(pt_truth ha.pe he).imp fun σ H Q ⟨G0, H0, G, ρ, k, s, ed, q⟩ => by
    obtain ⟨d, e1, e2⟩ := bind_some ed
    exact ⟨G0, H0, G, ρ, d, s, e1, fun G' H' v gx r => ⟨k, truth_ok gx.gh r e2, q G' H' gx⟩⟩⟩
def bAnd (f g : SB) : SB := fun ρ => (f ρ).bind fun k => if k = true then g ρ else some false
def bOr (f g : SB) : SB := fun ρ => (f ρ).bind fun k => if k = true then some true else g ρ
def bNot (f : SB) : SB := fun ρ => (f ρ).map fun k => !k
variable {rest : List Expr} {t u : SB}
theorem w_and1 (ha : DT X a t) : DW X (.BoolOp .And [a] pos) t := ⟨pw_and1 ha.pt⟩
theorem w_or1 (ha : DT X a t) : DW X (.BoolOp .Or [a] pos) t := ⟨pw_or1 ha.pt⟩
theorem w_and (ha : DT X a t) (hb : DW X (.BoolOp .And (b :: rest) pos) u) : DW X (.BoolOp .And (a :: b :: rest) pos) (bAnd t u) :=
  ⟨(pw_and ha.pt hb.pw).imp fun σ H Q ⟨G0, H0, G, ρ, k, s, ed, q⟩ => by
    obtain ⟨k1, e1, e2⟩ := bind_some ed
    refine ⟨G0, H0, G, ρ, k1, s, e1, fun G' H' gx => ?_⟩
    cases k1 with
    | true => exact iteT ⟨G0, H0, G', ρ, k, s.gx' gx, e2, fun G2 H2 gx2 => q G2 H2 (gx.trans gx2)⟩
    | false => cases e2; exact iteF (q G' H' gx)⟩
theorem w_or (ha : DT X a t) (hb : DW X (.BoolOp .Or (b :: rest) pos) u) : DW X (.BoolOp .Or (a :: b :: rest) pos) (bOr t u) :=
  ⟨(pw_or ha.pt hb.pw).imp fun σ H Q ⟨G0, H0, G, ρ, k, s, ed, q⟩ => by
    obtain ⟨k1, e1, e2⟩ := bind_some ed
    refine ⟨G0, H0, G, ρ, k1, s, e1, fun G' H' gx => ?_⟩
    cases k1 with
    | false => exact iteF ⟨G0, H0, G', ρ, k, s.gx' gx, e2, fun G2 H2 gx2 => q G2 H2 (gx.trans gx2)⟩
    | true => cases e2; exact iteT (q G' H' gx)⟩
theorem t_w (h : DW X e t) : DT X e t := ⟨h.pw.pt⟩
theorem t_not (ha : DT X a t) : DT X (.UnaryOp .Not a pos) (bNot t) :=
  ⟨(pt_not ha.pt).imp fun σ H Q ⟨G0, H0, G, ρ, k, s, ed, q⟩ => by
    cases e : t ρ with
    | none => rw [bNot, e] at ed; cases ed
    | some k1 =>
      rw [bNot, e] at ed
      cases ed
      exact ⟨G0, H0, G, ρ, k1, s, e, fun G' H' gx => q G' H' gx⟩⟩
/-- .. as values -/
def eAnd (f g : SE) : SE := fun ρ => (f ρ).bind fun x => (truth x).bind fun k => if k = true then g ρ else some x
def eOr (f g : SE) : SE := fun ρ => (f ρ).bind fun x => (truth x).bind fun k => if k = true then some x else g ρ
def eNot (f : SE) : SE := fun ρ => (f ρ).bind fun x => (truth x).map fun k => .bool !k
theorem d_one {op} (h : DX X m a f) : DX X m (.BoolOp op [a] pos) f := ⟨pe_one h.pe⟩
theorem d_and (ha : DX X .val a f) (hb : DX X .val (.BoolOp .And (b :: rest) pos) g) : DX X .val (.BoolOp .And (a :: b :: rest) pos) (eAnd f g) :=
  ⟨(pe_andT ha.pe hb.pe).imp fun σ H Q ⟨G0, H0, G, ρ, d, s, ed, q⟩ => by
    obtain ⟨d1, e1, ed⟩ := bind_some ed
    obtain ⟨k1, e2, ed⟩ := bind_some ed
    refine ⟨G0, H0, G, ρ, d1, s, e1, fun G' H' v gx r => ⟨k1, truth_ok gx.gh (.val r) e2, ?_⟩⟩
    cases k1 with
    | true => exact iteT ⟨G0, H0, G', ρ, d, s.gx' gx, ed, fun G2 H2 v gx2 r => q G2 H2 v (gx.trans gx2) r⟩
    | false => cases ed; exact iteF (q G' H' v gx r)⟩
theorem d_or (ha : DX X .val a f) (hb : DX X .val (.BoolOp .Or (b :: rest) pos) g) : DX X .val (.BoolOp .Or (a :: b :: rest) pos) (eOr f g) :=
  ⟨(pe_orT ha.pe hb.pe).imp fun σ H Q ⟨G0, H0, G, ρ, d, s, ed, q⟩ => by
    obtain ⟨d1, e1, ed⟩ := bind_some ed
    obtain ⟨k1, e2, ed⟩ := bind_some ed
    refine ⟨G0, H0, G, ρ, d1, s, e1, fun G' H' v gx r => ⟨k1, truth_ok gx.gh (.val r) e2, ?_⟩⟩
    cases k1 with
    | false => exact iteF ⟨G0, H0, G', ρ, d, s.gx' gx, ed, fun G2 H2 v gx2 r => q G2 H2 v (gx.trans gx2) r⟩
    | true => cases ed; exact iteT (q G' H' v gx r)⟩
theorem d_not (ha : DX X .bor a f) : DX X .val (.UnaryOp .Not a pos) (eNot f) :=
  ⟨(pe_notT ha.pe).imp fun σ H Q ⟨G0, H0, G, ρ, d, s, ed, q⟩ => by
    obtain ⟨d1, e1, ed⟩ := bind_some ed
    cases e2 : truth d1 with
    | none => rw [e2] at ed; cases ed
    | some k =>
      rw [e2] at ed
      cases ed
      exact ⟨G0, H0, G, ρ, d1, s, e1, fun G' H' v gx r => ⟨k, truth_ok gx.gh r e2, q G' H' _ gx (.bl _)⟩⟩⟩
/-- a if t else b -/
def eIf (t : SB) (f g : SE) : SE := fun ρ => (t ρ).bind fun k => if k = true then f ρ else g ρ
theorem d_if (hc : DT X c t) (ha : DX X m a f) (hb : DX X m b g) : DX X m (.IfExp c a b pos) (eIf t f g) :=
  ⟨(pe_ifExp hc.pt ha.pe hb.pe).imp fun σ H Q ⟨G0, H0, G, ρ, d, s, ed, q⟩ => by
    obtain ⟨k1, e1, ed⟩ := bind_some ed
    refine ⟨G0, H0, G, ρ, k1, s, e1, fun G' H' gx => ?_⟩
    cases k1 with
    | true => exact iteT ⟨G0, H0, G', ρ, d, s.gx' gx, ed, fun G2 H2 v gx2 r => q G2 H2 v (gx.trans gx2) (r.start gx.h)⟩
    | false => exact iteF ⟨G0, H0, G', ρ, d, s.gx' gx, ed, fun G2 H2 v gx2 r => q G2 H2 v (gx.trans gx2) (r.start gx.h)⟩⟩

/-! ### argument lists and displays -/
def aNil : SA := fun _ => some []
def aCons (f : SE) (r : SA) : SA := fun ρ => (f ρ).bind fun d => (r ρ).bind fun ds => some (d :: ds)
variable {es : List Expr} {ms : List Md} {r : SA}
theorem a_nil : DA X [] [] aNil := ⟨pa_nil.imp fun σ H Q ⟨G0, H0, G, ρ, d, s, ed, q⟩ => by
  cases ed
  exact q G H [] (Gx.refl s.gx.gh) .nil⟩
theorem a_cons (ha : DX X m e f) (hr : DA X ms es r) (hs : starEach (e :: es) X.env = (false, eval e X.env) :: starEach es X.env := by rfl) : DA X (m :: ms) (e :: es) (aCons f r) :=
  ⟨(pa_cons ha.pe hr.pa hs).imp fun σ H Q ⟨G0, H0, G, ρ, d, s, ed, q⟩ => by
    obtain ⟨d1, e1, ed⟩ := bind_some ed
    obtain ⟨ds, e2, ed⟩ := bind_some ed
    cases ed
    refine ⟨G0, H0, G, ρ, d1, s, e1, fun G1 H1 x gx1 r1 => ⟨G0, H0, G1, ρ, ds, s.gx' gx1, e2, fun G2 H2 vs gx2 r2 => ?_⟩⟩
    exact q G2 H2 _ (gx1.trans gx2) (.cons (r1.mono gx2) (r2.start gx1.h))⟩
def eTup (r : SA) : SE := fun ρ => (r ρ).bind fun ds => if ds.length ≤ sizeLine then some (.tuple ds) else none
def eLst (r : SA) : SE := fun ρ => (r ρ).bind fun ds => if ds.length ≤ sizeLine then some (.list ds) else none
theorem d_tup {x1} (h : DA X ms es r) (hm : ∀ m ∈ ms, m = .val) : DX X .val (.Tuple es x1 pos) (eTup r) :=
  ⟨(pe_tup h.pa).imp fun σ H Q ⟨G0, H0, G, ρ, d, s, ed, q⟩ => by
    obtain ⟨ds, e1, ed⟩ := bind_some ed
    obtain ⟨hl, rfl⟩ := if_some ed
    refine ⟨G0, H0, G, ρ, ds, s, e1, fun G1 H1 vs gx1 r1 => ?_⟩
    have ra := r1.vals hm
    refine ⟨by rw [← ra.len]; exact hl, fun p np => ?_⟩
    exact q _ _ _ (gx1.trans (Gx.new gx1.gh np)) (.tup upd_same (ra.mono (Ex.new (gx1.gh.back np))))⟩
theorem d_lst (h : DA X ms es r) (hm : ∀ m ∈ ms, m = .val) : DX X .new (.List es pos) (eLst r) :=
  ⟨(pe_lst h.pa).imp fun σ H Q ⟨G0, H0, G, ρ, d, s, ed, q⟩ => by
    obtain ⟨ds, e1, ed⟩ := bind_some ed
    obtain ⟨hl, rfl⟩ := if_some ed
    refine ⟨G0, H0, G, ρ, ds, s, e1, fun G1 H1 vs gx1 r1 => ?_⟩
    have ra := r1.vals hm
    refine ⟨by rw [← ra.len]; exact hl, fun p np => ?_⟩
    exact q _ _ _ (gx1.trans (Gx.mine gx1.gh np)) ⟨p, rfl, gx1.h.back np, gx1.gh.back np, .lst upd_same ra⟩⟩
end
end DV

namespace DV
open PySem L2

theorem ite_some {c : Prop} [Decidable c] {α : Type} {a : Option α} {b : α} (h : (if c then a else none) = some b) : c ∧ a = some b := by
  split at h
  · exact ⟨by assumption, h⟩
  · cases h
/-! ### what is walked -/
abbrev SI := Rho → Option (List PyData)
structure WalkD (K : PySem.W.Frag) (B G : Hp) (J : It) (ds : List PyData) : Prop where
  goes : ∀ i G2 H2, i < ds.length → Ex G G2 → Ex G2 H2 → Ex B H2 → J.go i H2
  stops : ∀ G2 H2, Ex G G2 → Ex G2 H2 → Ex B H2 → J.stop ds.length H2
  yields : ∀ i d G2 H2 x H3, ds[i]? = some d → Ex G G2 → Ex G2 H2 → Ex B H2 → J.yld i H2 x H3 → ∃ G3, Gx G2 H2 G3 H3 ∧ Rep K G3 d x
def tI (K : PySem.W.Frag) (wide : Bool) (f : SI) : TI := fun σ H R => ∃ G0 H0 G ρ ds, Sok K G0 H0 G ρ σ H ∧ f ρ = some ds ∧ ∀ G' H' J, Gx G H G' H' → WalkD K (if wide = true then H' else H0) G' J ds → R J H'
structure DI (X : Cx) (tg iter : Expr) (wide : Bool) (f : SI) : Prop where
  pi : PI X tg iter (tI X.K wide f)
theorem _root_.L2.PI.imp {X : Cx} {tg e : Expr} {t t' : TI} (h : PI X tg e t) (w : ∀ σ H Q, t' σ H Q → t σ H Q) : PI X tg e t' := ⟨fun pins s σ H Q I q => h.run pins s σ H Q I (w σ H Q q)⟩
def itemsOf : PyData → Option (List PyData)
  | .list ds => some ds
  | .tuple ds => some ds
  | .str z => some (z.cps.toList.map fun c => .str ⟨#[c]⟩)
  | _ => none
/-- a list, a tuple or a text, by what it is -/
def iAny (K : PySem.W.Frag) (te : TE) : TI := fun σ H R => te σ H fun x H1 =>
  (∃ a, x = .ref a ∧ (∃ xs, SqL K H1 a xs) ∧ R (Itl K a) H1) ∨ (∃ a, x = .ref a ∧ (∃ xs, SqT K H1 a xs) ∧ R (Itt K a) H1) ∨ ∃ z, x = .str z ∧ R (Its z) H1
theorem pi_any {X : Cx} {tg l : Expr} {tl : TE} (hl : PE X l tl) : PI X tg l (iAny X.K tl) := by
  refine ⟨fun pins s σ H R I h => ?_⟩
  refine thn (hl.run pins s σ H _ I h) fun v s1 ⟨x, H1, I1, r1, q1⟩ => ?_
  rcases q1 with ⟨a, e, ⟨xs, hq⟩, q⟩ | ⟨a, e, ⟨xs, hq⟩, q⟩ | ⟨z, e, q⟩
  · subst e
    cases r1
    obtain ⟨its, rv, p, hz⟩ := I1.list hq
    refine wpAny_pyIter_list p.isList ?_
    refine ⟨s1.heap.objs.size, [s1.heap.objs.size], _, _, H1, rfl, I1.kept (t' := s1.toks) fun b o e => Heap.get?_push_of_some _ e, turn_list a _, ⟨_, Heap.get?_push_size _ rfl, rfl, rfl⟩, fun b hb => ?_, q⟩
    have e : b = s1.heap.objs.size := by simpa using hb
    subst e
    exact I1.fpOk (Nat.le_refl _) (I1.hok.fresh (Nat.le_refl _))
  · subst e
    cases r1
    obtain ⟨its, rv, p, hz⟩ := I1.tuple hq
    refine wpAny_pyIter_tuple (show s1.heap.IsTuple a its.toArray from p) ?_
    refine ⟨s1.heap.objs.size, [s1.heap.objs.size], _, _, H1, rfl, I1.kept (t' := s1.toks) fun b o e => Heap.get?_push_of_some _ e, turn_tuple a _, ⟨_, Heap.get?_push_size _ rfl, rfl, rfl⟩, fun b hb => ?_, q⟩
    have e : b = s1.heap.objs.size := by simpa using hb
    subst e
    exact I1.fpOk (Nat.le_refl _) (I1.hok.fresh (Nat.le_refl _))
  · subst e
    obtain ⟨t, rfl⟩ := r1
    cases ha : z.cps.all (· < 128)
    · exact wpAny_pyIter_wide ha (pi_one (tk := s1.toks) I1 _ (turn_str _ z t "str_iterator" (.inr rfl)) ⟨_, Heap.get?_push_size _ rfl, rfl, rfl⟩ q)
    · exact wpAny_pyIter_ascii ha (pi_one (tk := s1.toks) I1 _ (turn_str _ z t "str_ascii_iterator" (.inl rfl)) ⟨_, Heap.get?_push_size _ rfl, rfl, rfl⟩ q)
section
variable {K : PySem.W.Frag} {B G0 H0 G H G' H' : Hp} {ρ : Rho} {σ : L2.St} {d : PyData} {ds : List PyData} {vs : List V} {a : Addr}
theorem WalkD.list (st : ∀ H2, Ex G H2 → Ex B H2 → SqL K H2 a vs) (r : RepA K G ds vs) : WalkD K B G (Itl K a) ds where
  goes := fun i G2 H2 hi g1 g2 b => by
    have q := st H2 (g1.trans g2) b
    rw [r.len] at hi
    exact ⟨vs, _, q, List.getElem?_eq_getElem hi⟩
  stops := fun G2 H2 g1 g2 b => ⟨vs, st H2 (g1.trans g2) b, by rw [r.len]; exact Nat.le_refl _⟩
  yields := fun i d G2 H2 x H3 hi g1 g2 b y => by
    obtain ⟨rfl, hy⟩ := y
    obtain ⟨v, h1, h2⟩ := r.get hi
    have := hy vs (st _ (g1.trans g2) b)
    rw [h1] at this; cases this
    exact ⟨G2, Gx.refl g2, h2.mono g1⟩
theorem WalkD.tup (st : ∀ H2, Ex G H2 → Ex B H2 → SqT K H2 a vs) (r : RepA K G ds vs) : WalkD K B G (Itt K a) ds where
  goes := fun i G2 H2 hi g1 g2 b => by
    have q := st H2 (g1.trans g2) b
    rw [r.len] at hi
    exact ⟨vs, _, q, List.getElem?_eq_getElem hi⟩
  stops := fun G2 H2 g1 g2 b => ⟨vs, st H2 (g1.trans g2) b, by rw [r.len]; exact Nat.le_refl _⟩
  yields := fun i d G2 H2 x H3 hi g1 g2 b y => by
    obtain ⟨rfl, hy⟩ := y
    obtain ⟨v, h1, h2⟩ := r.get hi
    have := hy vs (st _ (g1.trans g2) b)
    rw [h1] at this; cases this
    exact ⟨G2, Gx.refl g2, h2.mono g1⟩
theorem WalkD.str {z : Str} : WalkD K B G (Its z) (z.cps.toList.map fun c => .str ⟨#[c]⟩) where
  goes := fun i G2 H2 hi g1 g2 b => by
    show i < z.cps.size
    simpa using hi
  stops := fun G2 H2 g1 g2 b => by
    show z.cps.size ≤ _
    simp
  yields := fun i d G2 H2 x H3 hi g1 g2 b y => by
    obtain ⟨rfl, c, hc, rfl⟩ := y
    rw [List.getElem?_map, Array.getElem?_toList, hc] at hi
    cases hi
    exact ⟨G2, Gx.refl g2, .str _⟩
/-- the pairs that enumerate gives -/
def enumD : Nat → List PyData → List PyData
  | _, [] => []
  | n, d :: ds => .tuple [.int (n : Nat), d] :: enumD (n + 1) ds
theorem enumD_len : ∀ (n : Nat) (ds : List PyData), (enumD n ds).length = ds.length
  | _, [] => rfl
  | n, _ :: ds => congrArg (· + 1) (enumD_len (n + 1) ds)
theorem enumD_get : ∀ (n : Nat) (ds : List PyData) (i : Nat), (enumD n ds)[i]? = ds[i]?.map fun d => .tuple [.int ((n + i : Nat) : Int), d]
  | _, [], i => by simp [enumD]
  | n, d :: ds, 0 => by simp [enumD]
  | n, d :: ds, i + 1 => by
    rw [show (enumD n (d :: ds))[i + 1]? = (enumD (n + 1) ds)[i]? from rfl, enumD_get (n + 1) ds i, show (d :: ds)[i + 1]? = ds[i]? from rfl, show n + 1 + i = n + (i + 1) by omega]
theorem WalkD.enum (st : ∀ H2, Ex G H2 → Ex B H2 → SqL K H2 a vs) (r : RepA K G ds vs) : WalkD K B G (Ite K a) (enumD 0 ds) where
  goes := fun i G2 H2 hi g1 g2 b => by
    rw [enumD_len, r.len] at hi
    exact ⟨vs, _, st H2 (g1.trans g2) b, List.getElem?_eq_getElem hi⟩
  stops := fun G2 H2 g1 g2 b => ⟨vs, st H2 (g1.trans g2) b, by rw [enumD_len, r.len]; exact Nat.le_refl _⟩
  yields := fun i d G2 H2 x H3 hi g1 g2 b y => by
    obtain ⟨T, x', rfl, nT, rfl, hy⟩ := y
    rw [enumD_get] at hi
    cases e : ds[i]? with
    | none => rw [e] at hi; cases hi
    | some d' =>
      rw [e] at hi
      cases hi
      obtain ⟨v, h1, h2⟩ := r.get e
      have := hy vs (st _ (g1.trans g2) b)
      rw [h1] at this; cases this
      refine ⟨_, Gx.new g2 nT, .tup upd_same (.cons ?_ (.cons (h2.mono (g1.trans (Ex.new (g2.back nT)))) .nil))⟩
      rw [Nat.zero_add]; exact .int _
def zipD : List PyData → List PyData → List PyData
  | x :: xs, y :: ys => .tuple [x, y] :: zipD xs ys
  | _, _ => []
theorem zipD_len : ∀ xs ys : List PyData, (zipD xs ys).length = min xs.length ys.length
  | [], _ => by simp [zipD]
  | _ :: _, [] => by simp [zipD]
  | x :: xs, y :: ys => by
    show (zipD xs ys).length + 1 = min (xs.length + 1) (ys.length + 1)
    rw [zipD_len xs ys]; omega
theorem zipD_get : ∀ (xs ys : List PyData) (i : Nat) (d : PyData), (zipD xs ys)[i]? = some d → ∃ x y, xs[i]? = some x ∧ ys[i]? = some y ∧ d = .tuple [x, y]
  | [], _, i, d, h => by simp [zipD] at h
  | _ :: _, [], i, d, h => by simp [zipD] at h
  | x :: xs, y :: ys, 0, d, h => ⟨x, y, rfl, rfl, (Option.some.inj h).symm⟩
  | x :: xs, y :: ys, i + 1, d, h => zipD_get xs ys i d h
theorem WalkD.zip {a b : Addr} {us : List V} {es : List PyData} (st : ∀ H2, Ex G H2 → Ex B H2 → SqL K H2 a vs) (st2 : ∀ H2, Ex G H2 → Ex B H2 → SqL K H2 b us) (r : RepA K G ds vs) (r2 : RepA K G es us) : WalkD K B G (Itz K a b) (zipD ds es) where
  goes := fun i G2 H2 hi g1 g2 b => by
    rw [zipD_len, r.len, r2.len] at hi
    exact ⟨vs, us, _, _, st H2 (g1.trans g2) b, st2 H2 (g1.trans g2) b, List.getElem?_eq_getElem (by omega), List.getElem?_eq_getElem (by omega)⟩
  stops := fun G2 H2 g1 g2 b => ⟨vs, us, st H2 (g1.trans g2) b, st2 H2 (g1.trans g2) b, by rw [zipD_len, r.len, r2.len]; omega⟩
  yields := fun i d G2 H2 x H3 hi g1 g2 b y => by
    obtain ⟨T, x', y', rfl, nT, rfl, hx, hy⟩ := y
    obtain ⟨d1, d2, e1, e2, rfl⟩ := zipD_get _ _ _ _ hi
    obtain ⟨v, h1, h2⟩ := r.get e1
    obtain ⟨u, k1, k2⟩ := r2.get e2
    have := hx vs (st _ (g1.trans g2) b)
    rw [h1] at this; cases this
    have := hy us (st2 _ (g1.trans g2) b)
    rw [k1] at this; cases this
    exact ⟨_, Gx.new g2 nT, .tup upd_same (.cons (h2.mono (g1.trans (Ex.new (g2.back nT)))) (.cons (k2.mono (g1.trans (Ex.new (g2.back nT)))) .nil))⟩
def rangeD (lo : Int) (n : Nat) : List PyData := (List.range n).map fun i => .int (lo + (i : Nat))
theorem rangeD_len (lo : Int) (n : Nat) : (rangeD lo n).length = n := by simp [rangeD]
theorem WalkD.range {lo : Int} {n : Nat} : WalkD K B G (Itr lo n) (rangeD lo n) where
  goes := fun i G2 H2 hi _ _ _ => by rw [rangeD_len] at hi; exact hi
  stops := fun G2 H2 _ _ _ => by rw [rangeD_len]; exact Nat.le_refl _
  yields := fun i d G2 H2 x H3 hi _ g2 _ y => by
    obtain ⟨rfl, rfl⟩ := y
    unfold rangeD at hi
    rw [List.getElem?_map] at hi
    cases e : (List.range n)[i]? with
    | none => rw [e] at hi; cases hi
    | some j =>
      rw [e] at hi
      cases hi
      have : j = i := by
        obtain ⟨h1, h2⟩ := List.getElem?_eq_some_iff.mp e
        rw [← h2]; simp
      subst this
      exact ⟨G2, Gx.refl g2, .int _⟩
def rangeC (lo c : Int) (n : Nat) : List PyData := (List.range n).map fun i => .int (lo + (i : Nat) * c)
theorem rangeC_len (lo c : Int) (n : Nat) : (rangeC lo c n).length = n := by simp [rangeC]
theorem WalkD.rangeC {lo c : Int} {n : Nat} : WalkD K B G (Itc lo c n) (rangeC lo c n) where
  goes := fun i G2 H2 hi _ _ _ => by rw [rangeC_len] at hi; exact hi
  stops := fun G2 H2 _ _ _ => by rw [rangeC_len]; exact Nat.le_refl _
  yields := fun i d G2 H2 x H3 hi _ g2 _ y => by
    obtain ⟨rfl, rfl⟩ := y
    unfold DV.rangeC at hi
    rw [List.getElem?_map] at hi
    cases e : (List.range n)[i]? with
    | none => rw [e] at hi; cases hi
    | some j =>
      rw [e] at hi
      cases hi
      have : j = i := by
        obtain ⟨h1, h2⟩ := List.getElem?_eq_some_iff.mp e
        rw [← h2]; simp
      subst this
      exact ⟨G2, Gx.refl g2, .int _⟩
end
/-- reading a list, whatever mode -/
theorem RepB.seq {K : PySem.W.Frag} {G B : Hp} {ds : List PyData} {v : V} (h : RepB K G B (.list ds) v) : ∃ a vs, v = .ref a ∧ (∀ H2, Ex G H2 → Ex B H2 → Rd H2 a (.lst vs)) ∧ RepA K G ds vs := by
  cases h with
  | val h =>
    cases h with
    | lst h r => exact ⟨_, _, rfl, fun H2 g _ => g.rd h, r⟩
  | lst h r => exact ⟨_, _, rfl, fun H2 _ b => .inl (b _ _ h), r⟩
theorem RepB.seqT {K : PySem.W.Frag} {G B : Hp} {ds : List PyData} {v : V} (h : RepB K G B (.tuple ds) v) : ∃ a vs, v = .ref a ∧ (∀ H2, Ex G H2 → SqT K H2 a vs) ∧ RepA K G ds vs := by
  cases h with
  | val h =>
    cases h with
    | tup h r => exact ⟨_, _, rfl, fun H2 g => g.sqt (sqtOf h), r⟩
theorem RepB.str {K : PySem.W.Frag} {G B : Hp} {z : Str} {v : V} (h : RepB K G B (.str z) v) : v = .str z := by
  cases h with
  | val h => cases h; rfl
theorem RepB.int {K : PySem.W.Frag} {G B : Hp} {z : Int} {v : V} (h : RepB K G B (.int z) v) : v = .int z := by
  cases h with
  | val h => cases h; rfl
theorem RepB.bl {K : PySem.W.Frag} {G B : Hp} {z : Bool} {v : V} (h : RepB K G B (.bool z) v) : v = .bl z := by
  cases h with
  | val h => cases h; rfl
theorem RepB.non {K : PySem.W.Frag} {G B : Hp} {v : V} (h : RepB K G B .none v) : v = .non := by
  cases h with
  | val h => cases h; rfl
section
variable {X : Cx} {tg e a b c : Expr} {f g h : SE} {pos p tpos : Pos} {elts : List Expr} {kk : Nat}
def sSeq (f : SE) : SI := fun ρ => (f ρ).bind itemsOf
theorem any_of {K : PySem.W.Frag} {B G' H' : Hp} {d : PyData} {ds : List PyData} {v : V} {R : It → Hp → Prop} (gh : Ex G' H') (bh : Ex B H') (r : RepB K G' B d v) (e2 : itemsOf d = some ds)
    (q : ∀ J, WalkD K B G' J ds → R J H') : (∃ a, v = .ref a ∧ (∃ xs, SqL K H' a xs) ∧ R (Itl K a) H') ∨ (∃ a, v = .ref a ∧ (∃ xs, SqT K H' a xs) ∧ R (Itt K a) H') ∨ ∃ z, v = .str z ∧ R (Its z) H' := by
  cases d with
  | list l =>
    cases e2
    obtain ⟨a, vs, rfl, st, ra⟩ := r.seq
    exact .inl ⟨a, rfl, ⟨vs, .inl (st _ gh bh)⟩, q _ (WalkD.list (fun H2 x y => .inl (st H2 x y)) ra)⟩
  | tuple l =>
    cases e2
    obtain ⟨a, vs, rfl, st, ra⟩ := r.seqT
    exact .inr (.inl ⟨a, rfl, ⟨vs, st _ gh⟩, q _ (WalkD.tup (fun H2 g _ => st H2 g) ra)⟩)
  | str z =>
    cases e2
    cases r.str
    exact .inr (.inr ⟨z, rfl, q _ WalkD.str⟩)
  | _ => cases e2
theorem i_val (ha : DX X .val e f) : DI X tg e false (sSeq f) := ⟨(pi_any ha.pe).imp fun σ H R ⟨G0, H0, G, ρ, ds, s, ed, q⟩ => by
  obtain ⟨d, e1, e2⟩ := bind_some ed
  exact ⟨G0, H0, G, ρ, d, s, e1, fun G' H' v gx r => any_of gx.gh (s.gx.h.trans gx.h) (.val r) e2 fun J w => q G' H' J gx w⟩⟩
theorem i_par (ha : DX X .par e f) : DI X tg e false (sSeq f) := ⟨(pi_any ha.pe).imp fun σ H R ⟨G0, H0, G, ρ, ds, s, ed, q⟩ => by
  obtain ⟨d, e1, e2⟩ := bind_some ed
  exact ⟨G0, H0, G, ρ, d, s, e1, fun G' H' v gx r => any_of gx.gh (s.gx.h.trans gx.h) r e2 fun J w => q G' H' J gx w⟩⟩
theorem i_bor (ha : DX X .bor e f) : DI X tg e true (sSeq f) := ⟨(pi_any ha.pe).imp fun σ H R ⟨G0, H0, G, ρ, ds, s, ed, q⟩ => by
  obtain ⟨d, e1, e2⟩ := bind_some ed
  exact ⟨G0, H0, G, ρ, d, s, e1, fun G' H' v gx r => any_of gx.gh (Ex.refl _) r e2 fun J w => q G' H' J gx w⟩⟩
/-- for over the script -/
theorem i_scr (ha : DX X .scr e f) : DI X tg e true (sSeq f) := ⟨(pi_any ha.pe).imp fun σ H R ⟨G0, H0, G, ρ, ds, s, ed, q⟩ => by
  obtain ⟨d, e1, e2⟩ := bind_some ed
  refine ⟨G0, H0, G, ρ, d, s, e1, fun G' H' v gx r => ?_⟩
  obtain ⟨a, ns, rfl, rfl, hq⟩ := r
  cases e2
  exact .inl ⟨a, rfl, ⟨_, hq⟩, q G' H' _ gx (WalkD.list (fun H2 _ b => b.sql hq) (RepA.ints ns))⟩⟩
def rng1 : List PyData → Option (List PyData)
  | [.int j] => if -(2 ^ 62) ≤ j ∧ j < 2 ^ 62 then some (rangeD 0 j.toNat) else none
  | _ => none
def rng2 : List PyData → Option (List PyData)
  | [.int i, .int j] => if -(2 ^ 62) ≤ i ∧ i < 2 ^ 62 ∧ -(2 ^ 62) ≤ j ∧ j < 2 ^ 62 then some (rangeD i (j - i).toNat) else none
  | _ => none
def sArgs (F : List PyData → Option (List PyData)) (r : SA) : SI := fun ρ => (r ρ).bind F
theorem RM.stay {K : PySem.W.Frag} {H0 Hs G H : Hp} {m : Md} {d : PyData} {v : V} (hmd : m = .val ∨ m = .par) (h : RM K H0 Hs m G H d v) : RepB K G H0 d v := by
  rcases hmd with rfl | rfl
  · exact .val h
  · exact h
theorem RMs.one {K : PySem.W.Frag} {H0 Hs G H : Hp} {m : Md} {d : PyData} {vs : List V} (h : RMs K H0 Hs G H [m] [d] vs) : ∃ v, vs = [v] ∧ RM K H0 Hs m G H d v := by
  cases h with
  | cons h t => cases t; exact ⟨_, rfl, h⟩
theorem RMs.two {K : PySem.W.Frag} {H0 Hs G H : Hp} {m m' : Md} {d d' : PyData} {vs : List V} (h : RMs K H0 Hs G H [m, m'] [d, d'] vs) : ∃ v v', vs = [v, v'] ∧ RM K H0 Hs m G H d v ∧ RM K H0 Hs m' G H d' v' := by
  cases h with
  | cons h t =>
    obtain ⟨w, rfl, h2⟩ := t.one
    exact ⟨_, _, rfl, h, h2⟩
theorem RMs.three {K : PySem.W.Frag} {H0 Hs G H : Hp} {m m' m2 : Md} {d d' d2 : PyData} {vs : List V} (h : RMs K H0 Hs G H [m, m', m2] [d, d', d2] vs) : ∃ v v' v2, vs = [v, v', v2] ∧ RM K H0 Hs m G H d v ∧ RM K H0 Hs m' G H d' v' ∧ RM K H0 Hs m2 G H d2 v2 := by
  cases h with
  | cons h t =>
    obtain ⟨w, w2, rfl, h2, h3⟩ := t.two
    exact ⟨_, _, _, rfl, h, h2, h3⟩
theorem i_range1 {r : SA} (hg : Gl X "range") (hm : X.mg "range" = none) (ha : DA X [.val] [a] r) (hs : starEach [a] X.env = [(false, eval a X.env)] := by rfl) : DI X tg (.Call (.Name "range" p) [a] [] pos) false (sArgs rng1 r) :=
  ⟨(pi_range1 hg hm ha.pa hs).imp fun σ H R ⟨G0, H0, G, ρ, ds, s, ed, q⟩ => by
    obtain ⟨l, e1, e2⟩ := bind_some ed
    refine ⟨G0, H0, G, ρ, l, s, e1, fun G' H' vs gx r => ?_⟩
    unfold rng1 at e2
    split at e2
    · obtain ⟨⟨h1, h2⟩, rfl⟩ := if_some e2
      obtain ⟨v, rfl, r1⟩ := r.one
      cases (show Rep X.K G' (.int _) v from r1)
      exact ⟨_, rfl, h1, h2, q G' H' _ gx WalkD.range⟩
    · cases e2⟩
theorem i_range2 {r : SA} (hg : Gl X "range") (hm : X.mg "range" = none) (ha : DA X [.val, .val] [a, b] r) (hs : starEach [a, b] X.env = [(false, eval a X.env), (false, eval b X.env)] := by rfl) (hs2 : starEach [b] X.env = [(false, eval b X.env)] := by rfl) :
    DI X tg (.Call (.Name "range" p) [a, b] [] pos) false (sArgs rng2 r) :=
  ⟨(pi_range2 hg hm ha.pa hs hs2).imp fun σ H R ⟨G0, H0, G, ρ, ds, s, ed, q⟩ => by
    obtain ⟨l, e1, e2⟩ := bind_some ed
    refine ⟨G0, H0, G, ρ, l, s, e1, fun G' H' vs gx r => ?_⟩
    unfold rng2 at e2
    split at e2
    · obtain ⟨h1, rfl⟩ := if_some e2
      obtain ⟨v, w, rfl, r1, r2⟩ := r.two
      cases (show Rep X.K G' (.int _) v from r1)
      cases (show Rep X.K G' (.int _) w from r2)
      exact ⟨_, _, rfl, h1, q G' H' _ gx WalkD.range⟩
    · cases e2⟩
def enumI : List PyData → Option (List PyData)
  | [.list l] => some (enumD 0 l)
  | _ => none
def zipI : List PyData → Option (List PyData)
  | [.list l, .list m] => some (zipD l m)
  | _ => none
theorem i_enum {m : Md} {r : SA} (hg : Gl X "enumerate") (hm : X.mg "enumerate" = none) (ha : DA X [m] [e] r) (hmd : m = .val ∨ m = .par := by first | exact Or.inl rfl | exact Or.inr rfl) (hs : starEach [e] X.env = [(false, eval e X.env)] := by rfl) :
    DI X (.Tuple elts kk tpos) (.Call (.Name "enumerate" p) [e] [] pos) false (sArgs enumI r) :=
  ⟨(pi_enum hg hm ha.pa hs).imp fun σ H R ⟨G0, H0, G, ρ, ds, s, ed, q⟩ => by
    obtain ⟨l, e1, e2⟩ := bind_some ed
    refine ⟨G0, H0, G, ρ, l, s, e1, fun G' H' vs gx r => ?_⟩
    unfold enumI at e2
    split at e2
    · cases e2
      obtain ⟨v, rfl, r1⟩ := r.one
      obtain ⟨a, us, rfl, st, ra⟩ := (r1.stay hmd).seq
      exact ⟨a, us, rfl, .inl (st _ gx.gh (s.gx.h.trans gx.h)), q G' H' _ gx (WalkD.enum (fun H2 x y => .inl (st H2 x y)) ra)⟩
    · cases e2⟩
theorem i_zip {m m' : Md} {r : SA} (hg : Gl X "zip") (hm : X.mg "zip" = none) (ha : DA X [m, m'] [e, a] r) (hmd : m = .val ∨ m = .par := by first | exact Or.inl rfl | exact Or.inr rfl) (hmd' : m' = .val ∨ m' = .par := by first | exact Or.inl rfl | exact Or.inr rfl)
    (hs : starEach [e, a] X.env = (false, eval e X.env) :: starEach [a] X.env := by rfl) (hpl : (backTo pos (starEach [a] X.env)).any (·.1) = false := by rfl) :
    DI X (.Tuple elts kk tpos) (.Call (.Name "zip" p) [e, a] [] pos) false (sArgs zipI r) :=
  ⟨(pi_zip hg hm ha.pa hs hpl).imp fun σ H R ⟨G0, H0, G, ρ, ds, s, ed, q⟩ => by
    obtain ⟨l, e1, e2⟩ := bind_some ed
    refine ⟨G0, H0, G, ρ, l, s, e1, fun G' H' vs gx r => ?_⟩
    unfold zipI at e2
    split at e2
    · cases e2
      obtain ⟨v, w, rfl, r1, r2⟩ := r.two
      obtain ⟨a, us, rfl, st, ra⟩ := (r1.stay hmd).seq
      obtain ⟨b, ws, rfl, st2, rb⟩ := (r2.stay hmd').seq
      exact ⟨a, b, us, ws, rfl, .inl (st _ gx.gh (s.gx.h.trans gx.h)), .inl (st2 _ gx.gh (s.gx.h.trans gx.h)), q G' H' _ gx (WalkD.zip (fun H2 x y => .inl (st H2 x y)) (fun H2 x y => .inl (st2 H2 x y)) ra rb)⟩
    · cases e2⟩

/-! ### targets -/
abbrev SG := PyData → Rho → Option Rho
abbrev SGs := List PyData → Rho → Option Rho
def tG (K : PySem.W.Frag) (g : SG) : TG := fun v σ H Q => ∃ G0 H0 G ρ d ρ', Sok K G0 H0 G ρ σ H ∧ Rep K G d v ∧ g d ρ = some ρ' ∧ ∀ σ', Sok K G0 H0 G ρ' σ' H → Q σ' H
def tGs (K : PySem.W.Frag) (g : SGs) : TGs := fun vs σ H Q => ∃ G0 H0 G ρ ds ρ', Sok K G0 H0 G ρ σ H ∧ RepA K G ds vs ∧ g ds ρ = some ρ' ∧ ∀ σ', Sok K G0 H0 G ρ' σ' H → Q σ' H
structure DG (X : Cx) (tg : Expr) (g : SG) : Prop where
  pg : PG X tg (tG X.K g)
structure DGs (X : Cx) (tg : List Expr) (g : SGs) : Prop where
  pgs : PGs X tg (tGs X.K g)
theorem _root_.L2.PG.imp {e : Expr} {t t' : TG} (h : PG X e t) (w : ∀ v σ H Q, t' v σ H Q → t v σ H Q) : PG X e t' := ⟨fun pins s σ H v u Q I r q => h.run pins s σ H v u Q I r (w v σ H Q q)⟩
theorem _root_.L2.PGs.imp {e : List Expr} {t t' : TGs} (h : PGs X e t) (w : ∀ v σ H Q, t' v σ H Q → t v σ H Q) : PGs X e t' := ⟨fun pins s σ H v u Q I r q => h.run pins s σ H v u Q I r (w v σ H Q q)⟩
def gV (i : Nat) : SG := fun d ρ => if i < ρ.length then some (ρ.set i (.val d)) else none
def gsNil : SGs := fun ds ρ => match ds with
  | [] => some ρ
  | _ => none
def gsCons (g : SG) (r : SGs) : SGs := fun ds ρ => match ds with
  | d :: ds => (g d ρ).bind fun ρ' => r ds ρ'
  | [] => none
def gT (n : Nat) (r : SGs) : SG := fun d ρ => match d with
  | .tuple ds => if ds.length = n then r ds ρ else none
  | _ => none
variable {x : Str}
theorem g_name (i : Nat) (hN : X.N.Nodup) (hi : X.N[i]? = some x := by rfl) (hx : Loc X.env.scope x := by first | exact Or.inl rfl | exact Or.inr rfl) (hf : X.fn x = true ∨ X.env.scope.names.lookup x = some .local := by first | exact .inl rfl | exact .inr rfl | assumption) : DG X (.Name x pos) (gV i) :=
  ⟨(pg_name hN hi hx hf).imp fun v σ H Q ⟨G0, H0, G, ρ, d, ρ', s, r, e, q⟩ => by
    obtain ⟨hl, rfl⟩ := if_some e
    exact q _ (s.setVal hl r)⟩
theorem gs_nil : DGs X [] gsNil := ⟨pgs_nil.imp fun vs σ H Q ⟨G0, H0, G, ρ, d, ρ', s, r, e, q⟩ => by
  unfold gsNil at e
  split at e
  · cases e; cases r; exact ⟨rfl, q _ s⟩
  · cases e⟩
theorem gs_cons {es : List Expr} {g : SG} {r : SGs} (h1 : DG X e g) (h2 : DGs X es r) (hs : (assignEach (e :: es) X.env).map (·.2) = assign e X.env :: (assignEach es X.env).map (·.2) := by rfl) : DGs X (e :: es) (gsCons g r) :=
  ⟨(pgs_cons h1.pg h2.pgs hs).imp fun vs σ H Q ⟨G0, H0, G, ρ, d, ρ', s, r, e, q⟩ => by
    unfold gsCons at e
    split at e
    · cases r with
      | cons r1 r2 =>
        obtain ⟨ρ1, e1, e2⟩ := bind_some e
        exact ⟨_, _, rfl, G0, H0, G, ρ, _, ρ1, s, r1, e1, fun σ1 s1 => ⟨G0, H0, G, ρ1, _, ρ', s1, r2, e2, q⟩⟩
    · cases e⟩
theorem g_tup {es : List Expr} {k : Nat} {g : SGs} {n : Nat} (hc : X.calm = true) (h : DGs X es g)
    (hn : (assignEach es X.env).length = n := by rfl) (hst : (assignEach es X.env).findIdx? (·.1) = none := by rfl) : DG X (.Tuple es k pos) (gT n g) :=
  ⟨(pg_tup hc h.pgs hn hst).imp fun v σ H Q ⟨G0, H0, G, ρ, d, ρ', s, r, e, q⟩ => by
    unfold gT at e
    split at e
    · obtain ⟨hl, e⟩ := ite_some e
      cases r with
      | tup hq ra => exact ⟨_, _, rfl, s.gx.gh.sqt (sqtOf hq), by rw [← ra.len]; exact hl, G0, H0, G, ρ, _, ρ', s, ra, e, q⟩
    · cases e⟩
end
end DV

namespace DV
open PySem L2

/-! ### comprehensions -/
def wipeR (ρ : Rho) : List Nat → Rho
  | [] => ρ
  | v :: vs => (wipeR ρ vs).set v .un
theorem wipeR_len (ρ : Rho) : ∀ vs : List Nat, (wipeR ρ vs).length = ρ.length
  | [] => rfl
  | v :: vs => by unfold wipeR; rw [List.length_set, wipeR_len ρ vs]
section
variable {K : PySem.W.Frag} {G0 : Fr} {B H0 G H G' H' : Hp} {ρ : Rho} {σ : L2.St} {d : PyData} {ds : List PyData}
theorem Sok.setOut (s : Sok K G0 H0 G ρ σ H) {i : Nat} (hi : ¬ i < ρ.length) : Sok K G0 H0 G (ρ.set i .un) (σ.set i none) H := by
  rw [List.set_eq_of_length_le (by omega), List.set_eq_of_length_le (by rw [s.len]; omega)]; exact s
theorem Sok.wipe (s : Sok K G0 H0 G ρ σ H) : ∀ vs : List Nat, Sok K G0 H0 G (wipeR ρ vs) (L2.wipe σ vs) H
  | [] => s
  | v :: vs => by
    show Sok K G0 H0 G ((wipeR ρ vs).set v .un) ((L2.wipe σ vs).set v none) H
    by_cases h : v < (wipeR ρ vs).length
    · exact (s.wipe vs).setUn h none
    · exact (s.wipe vs).setOut h
end
def lcGo (g : SG) (t : SB) (e : SE) (ρ : Rho) : List PyData → Option (List PyData)
  | [] => some []
  | d :: ds => (g d ρ).bind fun ρ1 => (t ρ1).bind fun k => if k = true then (e ρ1).bind fun y => (lcGo g t e ρ ds).bind fun ys => some (y :: ys) else lcGo g t e ρ ds
def eLc (f : SI) (g : SG) (t : SB) (e : SE) (vs : List Nat) : SE := fun ρ => (f ρ).bind fun ds => (lcGo g t e (wipeR ρ vs) ds).bind fun ys => if ys.length ≤ sizeLine then some (.list ys) else none
def bYes : SB := fun _ => some true
structure DTs (X : Cx) (ifs : List Expr) (f : SB) : Prop where
  pts : PTs X ifs (tT X.K f)
theorem _root_.L2.PTs.imp {X : Cx} {e : List Expr} {t t' : TT} (h : PTs X e t) (w : ∀ σ H Q, t' σ H Q → t σ H Q) : PTs X e t' := ⟨fun pins s σ H Q I q => h.run pins s σ H Q I (w σ H Q q)⟩
section
variable {X : Cx} {tg e iter c : Expr} {f : SE} {fi : SI} {g : SG} {t : SB} {pos : Pos}
theorem ts_nil : DTs X [] bYes := ⟨pts_nil.imp fun σ H Q ⟨G0, H0, G, ρ, k, s, e, q⟩ => by
  cases e
  exact q G H (Gx.refl s.gx.gh)⟩
theorem ts_one (h : DT X c t) : DTs X [c] t := ⟨pts_one h.pt⟩
/-- the target of a comprehension stores into the block's own slots alone -/
def GOwn (g : SG) (vs : List Nat) : Prop := ∀ d (ρ ρ' : Rho), g d ρ = some ρ' → ρ'.length = ρ.length
theorem wipe_eq (vs : List Nat) (σ σ' : L2.St) (hl : σ'.length = σ.length) (h : ∀ i, i ∉ vs → σ'[i]? = σ[i]?) : L2.wipe σ' vs = L2.wipe σ vs := by
  apply List.ext_getElem?
  intro i
  have get : ∀ (τ : L2.St) (vs : List Nat), (L2.wipe τ vs)[i]? = if i ∈ vs ∧ i < τ.length then some none else τ[i]? := by
    intro τ vs
    induction vs with
    | nil => simp [L2.wipe]
    | cons v r ih =>
      show ((L2.wipe τ r).set v none)[i]? = _
      by_cases hv : v = i
      · subst hv
        by_cases hlt : v < τ.length
        · rw [List.getElem?_set_self (by rw [wipe_length]; exact hlt), if_pos ⟨List.mem_cons_self, hlt⟩]
        · rw [List.set_eq_of_length_le (by rw [wipe_length]; omega), ih, if_neg (fun z => hlt z.2), if_neg (fun z => hlt z.2)]
      · rw [List.getElem?_set_ne hv, ih]
        by_cases hr : i ∈ r ∧ i < τ.length
        · rw [if_pos hr, if_pos ⟨List.mem_cons_of_mem _ hr.1, hr.2⟩]
        · rw [if_neg hr, if_neg (fun z => hr ⟨(List.mem_cons.mp z.1).resolve_left (fun q => hv q.symm), z.2⟩)]
  rw [get, get, hl]
  by_cases hi : i ∈ vs
  · by_cases hlt : i < σ.length
    · rw [if_pos ⟨hi, hlt⟩, if_pos ⟨hi, hlt⟩]
    · rw [if_neg (fun z => hlt z.2), if_neg (fun z => hlt z.2), List.getElem?_eq_none (by omega), List.getElem?_eq_none (by omega)]
  · rw [if_neg (fun z => hi z.1), if_neg (fun z => hi z.1)]; exact h i hi
end
/-! targets that touch the slots vs alone: their readings with that fact -/
def tGw (K : PySem.W.Frag) (vs : List Nat) (g : SG) : TG := fun v σ H Q => ∃ G0 H0 G ρ d ρ', Sok K G0 H0 G ρ σ H ∧ Rep K G d v ∧ g d ρ = some ρ' ∧ ∀ σ', σ'.length = σ.length → (∀ i, i ∉ vs → σ'[i]? = σ[i]?) → Sok K G0 H0 G ρ' σ' H → Q σ' H
def tGws (K : PySem.W.Frag) (vs : List Nat) (g : SGs) : TGs := fun us σ H Q => ∃ G0 H0 G ρ ds ρ', Sok K G0 H0 G ρ σ H ∧ RepA K G ds us ∧ g ds ρ = some ρ' ∧ ∀ σ', σ'.length = σ.length → (∀ i, i ∉ vs → σ'[i]? = σ[i]?) → Sok K G0 H0 G ρ' σ' H → Q σ' H
structure DGw (X : Cx) (vs : List Nat) (tg : Expr) (g : SG) : Prop where
  pg : PG X tg (tGw X.K vs g)
structure DGws (X : Cx) (vs : List Nat) (tg : List Expr) (g : SGs) : Prop where
  pgs : PGs X tg (tGws X.K vs g)
section
variable {X : Cx} {tg e : Expr} {vs : List Nat} {pos : Pos} {x : Str}
theorem gw_name (i : Nat) (hN : X.N.Nodup) (hv : i ∈ vs := by decide) (hi : X.N[i]? = some x := by rfl) (hx : Loc X.env.scope x := by first | exact Or.inl rfl | exact Or.inr rfl) (hf : X.fn x = true ∨ X.env.scope.names.lookup x = some .local := by first | exact .inl rfl | exact .inr rfl | assumption) : DGw X vs (.Name x pos) (gV i) :=
  ⟨(pg_name hN hi hx hf).imp fun v σ H Q ⟨G0, H0, G, ρ, d, ρ', s, r, e, q⟩ => by
    obtain ⟨hl, rfl⟩ := if_some e
    exact q _ (List.length_set ..) (fun j hj => List.getElem?_set_ne (show i ≠ j from fun z => hj (z ▸ hv))) (s.setVal hl r)⟩
theorem gws_nil : DGws X vs [] gsNil := ⟨pgs_nil.imp fun us σ H Q ⟨G0, H0, G, ρ, d, ρ', s, r, e, q⟩ => by
  unfold gsNil at e
  split at e
  · cases e; cases r; exact ⟨rfl, q _ rfl (fun _ _ => rfl) s⟩
  · cases e⟩
theorem gws_cons {es : List Expr} {g : SG} {r : SGs} (h1 : DGw X vs e g) (h2 : DGws X vs es r) (hs : (assignEach (e :: es) X.env).map (·.2) = assign e X.env :: (assignEach es X.env).map (·.2) := by rfl) : DGws X vs (e :: es) (gsCons g r) :=
  ⟨(pgs_cons h1.pg h2.pgs hs).imp fun us σ H Q ⟨G0, H0, G, ρ, d, ρ', s, r, e, q⟩ => by
    unfold gsCons at e
    split at e
    · cases r with
      | cons r1 r2 =>
        obtain ⟨ρ1, e1, e2⟩ := bind_some e
        exact ⟨_, _, rfl, G0, H0, G, ρ, _, ρ1, s, r1, e1, fun σ1 l1 k1 s1 => ⟨G0, H0, G, ρ1, _, ρ', s1, r2, e2, fun σ2 l2 k2 s2 => q σ2 (l2.trans l1) (fun i hi => (k2 i hi).trans (k1 i hi)) s2⟩⟩
    · cases e⟩
theorem gw_tup {es : List Expr} {k : Nat} {g : SGs} {n : Nat} (hc : X.calm = true) (h : DGws X vs es g)
    (hn : (assignEach es X.env).length = n := by rfl) (hst : (assignEach es X.env).findIdx? (·.1) = none := by rfl) : DGw X vs (.Tuple es k pos) (gT n g) :=
  ⟨(pg_tup hc h.pgs hn hst).imp fun v σ H Q ⟨G0, H0, G, ρ, d, ρ', s, r, e, q⟩ => by
    unfold gT at e
    split at e
    · obtain ⟨hl, e⟩ := ite_some e
      cases r with
      | tup hq ra => exact ⟨_, _, rfl, s.gx.gh.sqt (sqtOf hq), by rw [← ra.len]; exact hl, G0, H0, G, ρ, _, ρ', s, ra, e, q⟩
    · cases e⟩
end
section
variable {X : Cx} {tg elt iter : Expr} {f : SE} {fi : SI} {g : SG} {t : SB} {pos : Pos} {ifs : List Expr} {scope : Scope} {own : List (Str × Nat)}
/-- the heart of a comprehension over WalkD -/
theorem lc_loop {K : PySem.W.Frag} {G0 : Fr} {H0 G H : Hp} {ρ : Rho} {σ : L2.St} {vs : List Nat} {J : It} {ds ys : List PyData} {D : Addr} {Q : V → Hp → Prop}
    (s : Sok K G0 H0 G ρ σ H) (w : WalkD K H G J ds) (hys : lcGo g t f (wipeR ρ vs) ds = some ys) (hl : ys.length ≤ sizeLine) (hD : H D = none)
    (q : ∀ G' H' v, Gx G H G' H' → RM K H0 H .new G' H' (.list ys) v → Q v H') :
    ∃ W : Nat → Nat → Hp → Prop, (∃ m, W 0 m (upd H D (.lst []))) ∧ ∀ i m H, W i m H →
      (J.stop i H ∧ Q (.ref D) H) ∨ (J.go i H ∧ ∃ Nx : Hp → Prop, (∀ H', Nx H' → ∃ m', m' < m ∧ W (i + 1) m' H') ∧ ∀ x H', J.yld i H x H' → tGw K vs g x (L2.wipe σ vs) H' fun σ2 H2 => L2.wipe σ2 vs = L2.wipe σ vs ∧ tT K t σ2 H2 fun b H3 =>
        if b = true then tE K .val f σ2 H3 fun y H4 => ∃ acc, H4 D = some (.lst acc) ∧ acc.length < sizeLine ∧ Nx (upd H4 D (.lst (acc ++ [y]))) else Nx H3) := by
  -- the state ahead of turn i: what is made so far, what is left
  let St (i : Nat) (Hi : Hp) : Prop := ∃ Gi done rest us, Gx G H Gi Hi ∧ Gi D = none ∧ Hi D = some (.lst us) ∧ RepA K Gi done us ∧ ys = done ++ rest ∧ i ≤ ds.length ∧ lcGo g t f (wipeR ρ vs) (ds.drop i) = some rest
  refine ⟨fun i m Hi => m = ds.length - i ∧ St i Hi, ⟨_, rfl, G, [], ys, [], Gx.mine s.gx.gh hD, s.gx.gh.back hD, upd_same, .nil, rfl, Nat.zero_le _, hys⟩, ?_⟩
  rintro i m Hi ⟨rfl, Gi, done, rest, us, gx, gD, eD, ra, ey, hi, hr⟩
  have si := s.gx' gx
  by_cases hlt : i < ds.length
  · refine .inr ⟨w.goes i Gi Hi hlt gx.g gx.gh gx.h, St (i + 1), fun H' p => ⟨_, by omega, rfl, p⟩, fun x H' hy => ?_⟩
    have hd := List.getElem?_eq_getElem hlt
    obtain ⟨G3, gx3, rx⟩ := w.yields i _ Gi Hi x H' hd gx.g gx.gh gx.h hy
    rw [List.drop_eq_getElem_cons hlt] at hr
    obtain ⟨ρ1, e1, hr⟩ := bind_some hr
    obtain ⟨k, e2, hr⟩ := bind_some hr
    have s3 := (si.wipe vs).gx' gx3
    refine ⟨G0, H0, G3, _, _, ρ1, s3, rx, e1, fun σ2 l2 k2 s2 => ⟨?_, ?_⟩⟩
    · rw [wipe_eq vs (L2.wipe σ vs) σ2 l2 k2]
      exact wipe_eq vs σ (L2.wipe σ vs) (wipe_length _ _) fun j hj => wipe_out hj
    · refine ⟨G0, H0, G3, ρ1, k, s2, e2, fun G4 H4 gx4 => ?_⟩
      have gxa := (gx.trans gx3).trans gx4
      have gx34 := gx3.trans gx4
      have noD : ∀ {G' H' : Hp}, Gx Gi Hi G' H' → G' D = none ∧ H' D = some (.lst us) := fun {G' H'} gxq => by
        refine ⟨?_, gxq.h _ _ eD⟩
        cases z : G' D with
        | none => rfl
        | some u =>
          rcases gxq.nw D (by rw [z]; simp) with y | y
          · exact absurd gD y
          · rw [eD] at y; cases y
      cases k with
      | false =>
        refine iteF ⟨G4, done, rest, us, gxa, (noD gx34).1, (noD gx34).2, ra.mono gx34.g, ey, hlt, hr⟩
      | true =>
        refine iteT ?_
        obtain ⟨y, e3, hr⟩ := bind_some (show _ = _ from hr)
        obtain ⟨r2, e4, hr⟩ := bind_some hr
        cases hr
        refine ⟨G0, H0, G4, ρ1, y, s2.gx' gx4, e3, fun G5 H5 v gx5 r5 => ?_⟩
        have gx35 := gx34.trans gx5
        obtain ⟨n1, n2⟩ := noD gx35
        refine ⟨us, n2, ?_, G5, done ++ [y], r2, us ++ [v], ?_, n1, upd_same, (ra.mono gx35.g).app (.cons r5 .nil), by rw [ey]; simp, hlt, e4⟩
        · rw [← ra.len]
          have : ys.length = done.length + (r2.length + 1) := by rw [ey]; simp
          omega
        · have z := gx.trans gx35
          refine ⟨z.g, z.h.mut hD, z.gh.mut n1, z.nw⟩
  · have ei : i = ds.length := by omega
    subst ei
    rw [List.drop_length] at hr
    cases hr
    refine .inl ⟨w.stops Gi Hi gx.g gx.gh gx.h, q Gi Hi _ gx ⟨D, rfl, hD, gD, .lst eD ?_⟩⟩
    rw [ey, List.append_nil]; exact ra
theorem d_lc {wide : Bool} {vs : List Nat} (hc : X.calm = true) (hN : X.N.Nodup) (hvs : own.map (·.2) = vs) (hi : DI X tg iter wide fi) (ok : BlkOk X.N X.env.scope scope own)
    (hg : ∀ (s : Shared) (H : Hp) (C : Addr) (cl : List (Str × Addr)) (fp : List Addr), DGw (X.blk s H scope (compEnvC scope cl C X.env) fp) vs tg g)
    (ht : ∀ (s : Shared) (H : Hp) (C : Addr) (cl : List (Str × Addr)) (fp : List Addr), DTs (X.blk s H scope (compEnvC scope cl C X.env) fp) ifs t)
    (he : ∀ (s : Shared) (H : Hp) (C : Addr) (cl : List (Str × Addr)) (fp : List Addr), DX (X.blk s H scope (compEnvC scope cl C X.env) fp) .val elt f)
    (hs : ∀ x, foldedSetIterable iter X.env x = pure x := by intro _; rfl) : DX X .new (.ListComp elt [⟨tg, iter, ifs, 0⟩] scope pos) (eLc fi g t f vs) := by
  subst hvs
  exact ⟨(pe_lc hc hN hi.pi ok (fun s H C cl fp => (hg s H C cl fp).pg) (fun s H C cl fp => (ht s H C cl fp).pts) (fun s H C cl fp => (he s H C cl fp).pe) hs).imp fun σ H Q ⟨G0, H0, G, ρ, d, s, ed, q⟩ => by
    obtain ⟨ds, e1, ed⟩ := bind_some ed
    obtain ⟨ys, e2, ed⟩ := bind_some ed
    obtain ⟨hl, rfl⟩ := if_some ed
    refine ⟨G0, H0, G, ρ, ds, s, e1, fun G1 H1 J gx1 w => fun D hD => ?_⟩
    have w' : WalkD X.K H1 G1 J ds := by
      cases wide with
      | true => exact w
      | false =>
        have z := s.gx.h.trans gx1.h
        exact ⟨fun i G2 H2 a b c e => w.goes i G2 H2 a b c (z.trans e), fun G2 H2 b c e => w.stops G2 H2 b c (z.trans e), fun i d G2 H2 x H3 a b c e => w.yields i d G2 H2 x H3 a b c (z.trans e)⟩
    exact lc_loop (s.gx' gx1) w' e2 hl hD fun G' H' v gx r => q G' H' v (gx1.trans gx) (r.start gx1.h)⟩
end
end DV

namespace DV
open PySem L2

/-! ### statements -/
def OutOk (K : PySem.W.Frag) (rm : Md) (G0 : Fr) (H0 G : Hp) (D : Ends) : Out → Prop
  | .nx ρ' => ∀ G' σ' H', Ex G G' → Sok K G0 H0 G' ρ' σ' H' → D.nx σ' H'
  | .bk ρ' => ∀ G' σ' H', Ex G G' → Sok K G0 H0 G' ρ' σ' H' → D.bk σ' H'
  | .ct ρ' => ∀ G' σ' H', Ex G G' → Sok K G0 H0 G' ρ' σ' H' → D.ct σ' H'
  | .rt d => ∀ G' H' v, Gx G0.g H0 G' H' → RM K H0 H0 rm G' H' d v → D.rt v H'
def tS (K : PySem.W.Frag) (rm : Md) (f : SS) : TS := fun D σ H => ∃ G0 H0 G ρ o, Sok K G0 H0 G ρ σ H ∧ f ρ = some o ∧ OutOk K rm G0 H0 G D o
structure DS (X : Cx) (rm : Md) (st : Stmt) (f : SS) : Prop where
  ps : PS X st (tS X.K rm f)
structure DB (X : Cx) (rm : Md) (st : List Stmt) (f : SS) : Prop where
  pss : PSs X st (tS X.K rm f)
theorem OutOk.grow {K : PySem.W.Frag} {rm : Md} {G0 : Fr} {H0 G G1 : Hp} {D : Ends} {o : Out} (e : Ex G G1) (h : OutOk K rm G0 H0 G D o) : OutOk K rm G0 H0 G1 D o := by
  cases o with
  | nx ρ => exact fun G' σ' H' e2 s => h G' σ' H' (e.trans e2) s
  | bk ρ => exact fun G' σ' H' e2 s => h G' σ' H' (e.trans e2) s
  | ct ρ => exact fun G' σ' H' e2 s => h G' σ' H' (e.trans e2) s
  | rt d => exact h
def sNext : SS := fun ρ => some (.nx ρ)
def sSeqn (f g : SS) : SS := fun ρ => (f ρ).bind fun o => match o with
  | .nx ρ' => g ρ'
  | o => some o
section
variable {X : Cx} {rm : Md} {st : Stmt} {rest b1 b2 : List Stmt} {f g : SS} {e c : Expr} {fe : SE} {t : SB} {pos : Pos} {x : Str}
theorem b_nil : DB X rm [] sNext := ⟨pss_nil.imp fun D σ H ⟨G0, H0, G, ρ, o, s, e, q⟩ => by
  cases e
  exact q G σ H (Ex.refl _) s⟩
theorem seq_of {K : PySem.W.Frag} {t u : TS} (h1 : ∀ D σ H, tS K rm f D σ H → t D σ H) (h2 : ∀ D σ H, tS K rm g D σ H → u D σ H) : ∀ D σ H, tS K rm (sSeqn f g) D σ H → tSeq t u D σ H := fun D σ H ⟨G0, H0, G, ρ, o, s, e, q⟩ => by
  obtain ⟨o1, e1, e2⟩ := bind_some e
  refine h1 _ σ H ⟨G0, H0, G, ρ, o1, s, e1, ?_⟩
  cases o1 with
  | nx ρ' => exact fun G' σ' H' eg s' => h2 D σ' H' ⟨G0, H0, G', ρ', o, s', e2, q.grow eg⟩
  | bk ρ' => cases e2; exact q
  | ct ρ' => cases e2; exact q
  | rt d => cases e2; exact q
theorem b_cons (h1 : DS X rm st f) (h2 : DB X rm rest g) : DB X rm (st :: rest) (sSeqn f g) := ⟨(pss_cons h1.ps h2.pss).imp (seq_of (fun _ _ _ h => h) fun _ _ _ h => h)⟩
theorem b_one (h1 : DS X rm st f) : DB X rm [st] f := ⟨pss_one h1.ps⟩
def sBrk : SS := fun ρ => some (.bk ρ)
def sCnt : SS := fun ρ => some (.ct ρ)
theorem s_pass : DS X rm (.Pass pos) sNext := ⟨ps_pass.imp fun D σ H ⟨G0, H0, G, ρ, o, s, e, q⟩ => by
  cases e
  exact q G σ H (Ex.refl _) s⟩
theorem s_break : DS X rm (.Break pos) sBrk := ⟨ps_break.imp fun D σ H ⟨G0, H0, G, ρ, o, s, e, q⟩ => by
  cases e
  exact q G σ H (Ex.refl _) s⟩
theorem s_continue : DS X rm (.Continue pos) sCnt := ⟨ps_continue.imp fun D σ H ⟨G0, H0, G, ρ, o, s, e, q⟩ => by
  cases e
  exact q G σ H (Ex.refl _) s⟩
def sExpr (f : SE) : SS := fun ρ => (f ρ).bind fun _ => some (.nx ρ)
theorem s_expr {m : Md} (he : DX X m e fe) (hs : swapsWith e none pos.line X.env = pure false := by rfl) : DS X rm (.Expr e pos) (sExpr fe) :=
  ⟨(ps_expr he.pe hs).imp fun D σ H ⟨G0, H0, G, ρ, o, s, e, q⟩ => by
    obtain ⟨d, e1, e2⟩ := bind_some e
    cases e2
    exact ⟨G0, H0, G, ρ, d, s, e1, fun G' H' v gx r => q G' σ H' gx.g (s.gx' gx)⟩⟩
def sRet (f : SE) : SS := fun ρ => (f ρ).bind fun d => some (.rt d)
theorem s_ret (he : DX X rm e fe) (hr : rm = .val ∨ rm = .new := by first | exact Or.inl rfl | exact Or.inr rfl) : DS X rm (.Return (some e) pos) (sRet fe) :=
  ⟨(ps_ret he.pe).imp fun D σ H ⟨G0, H0, G, ρ, o, s, e, q⟩ => by
    obtain ⟨d, e1, e2⟩ := bind_some e
    cases e2
    refine ⟨G0, H0, G, ρ, d, s, e1, fun G' H' v gx r => q G' H' v (s.gx.trans gx) ?_⟩
    exact r.start s.gx.h⟩
/-- return of an own list by its name -/
def sRetOwn (i : Nat) : SS := fun ρ => match ρ[i]? with
  | some (.own d) => some (.rt d)
  | _ => none
theorem s_retOwn (i : Nat) {p : Pos} (hN : X.N[i]? = some x := by rfl) (hv : Vis X.env.scope x := by first | exact Or.inl rfl | exact Or.inr (Or.inl rfl) | exact Or.inr (Or.inr rfl)) (hd : (x == ("__debug__" : Str)) = false := by decide)
    (hcd : (x == ("__classdict__" : Str)) = false := by decide) : DS X .new (.Return (some (.Name x p)) pos) (sRetOwn i) :=
  ⟨(ps_ret (pe_var hN hv hd hcd)).imp fun D σ H ⟨G0, H0, G, ρ, o, s, e, q⟩ => by
    unfold sRetOwn at e
    split at e
    · cases e
      rename_i d h
      obtain ⟨a, h1, h2, h3, h4⟩ := s.own h
      exact ⟨_, h1, q G H _ s.gx ⟨a, rfl, h2, h3, h4⟩⟩
    · cases e⟩
def sRetN : SS := fun _ => some (.rt .none)
theorem s_retN : DS X .val (.Return none pos) sRetN := ⟨ps_retN.imp fun D σ H ⟨G0, H0, G, ρ, o, s, e, q⟩ => by
  cases e
  exact q G H _ s.gx .non⟩
def sIf (t : SB) (f g : SS) : SS := fun ρ => (t ρ).bind fun k => if k = true then f ρ else g ρ
theorem s_if (hc : DT X c t) (h1 : DB X rm b1 f) (h2 : DB X rm b2 g) : DS X rm (.If c b1 b2 pos) (sIf t f g) :=
  ⟨(ps_if hc.pt h1.pss h2.pss).imp fun D σ H ⟨G0, H0, G, ρ, o, s, e, q⟩ => by
    obtain ⟨k, e1, e2⟩ := bind_some e
    refine ⟨G0, H0, G, ρ, k, s, e1, fun G' H' gx => ?_⟩
    cases k with
    | true => exact iteT ⟨G0, H0, G', ρ, o, s.gx' gx, e2, q.grow gx.g⟩
    | false => exact iteF ⟨G0, H0, G', ρ, o, s.gx' gx, e2, q.grow gx.g⟩⟩

/-! ### stores -/
def sSet (i : Nat) (f : SE) : SS := fun ρ => (f ρ).bind fun d => if i < ρ.length then some (.nx (ρ.set i (.val d))) else none
def sOwn (i : Nat) (f : SE) : SS := fun ρ => (f ρ).bind fun d => if i < ρ.length then some (.nx (ρ.set i (.own d))) else none
theorem set_of {K : PySem.W.Frag} {i : Nat} : ∀ D σ H, tS K rm (sSet i fe) D σ H → tAsg (tE K .val fe) (gName i) D σ H := fun D σ H ⟨G0, H0, G, ρ, o, s, e, q⟩ => by
  obtain ⟨d, e1, e2⟩ := bind_some e
  obtain ⟨hl, rfl⟩ := if_some e2
  exact ⟨G0, H0, G, ρ, d, s, e1, fun G' H' v gx r => q G' _ H' gx.g ((s.gx' gx).setVal hl r)⟩
theorem own_of {K : PySem.W.Frag} {i : Nat} : ∀ D σ H, tS K rm (sOwn i fe) D σ H → tAsg (tE K .new fe) (gName i) D σ H := fun D σ H ⟨G0, H0, G, ρ, o, s, e, q⟩ => by
  obtain ⟨d, e1, e2⟩ := bind_some e
  obtain ⟨hl, rfl⟩ := if_some e2
  exact ⟨G0, H0, G, ρ, d, s, e1, fun G' H' v gx r => q G' _ H' gx.g (s.setOwn gx hl r)⟩
theorem s_set (i : Nat) {pos' : Pos} (hN : X.N.Nodup) (he : DX X .val e fe) (hi : X.N[i]? = some x := by rfl) (hx : Loc X.env.scope x := by first | exact Or.inl rfl | exact Or.inr rfl) (hs : swapsWith e (some (.Name x pos')) pos.line X.env = pure false := by rfl)
    (hf : X.fn x = true ∨ X.env.scope.names.lookup x = some .local := by first | exact .inl rfl | exact .inr rfl | assumption) : DS X rm (.Assign [.Name x pos'] e pos) (sSet i fe) := ⟨(ps_set hN hi hx he.pe hs hf).imp set_of⟩
theorem s_own (i : Nat) {pos' : Pos} (hN : X.N.Nodup) (he : DX X .new e fe) (hi : X.N[i]? = some x := by rfl) (hx : Loc X.env.scope x := by first | exact Or.inl rfl | exact Or.inr rfl) (hs : swapsWith e (some (.Name x pos')) pos.line X.env = pure false := by rfl)
    (hf : X.fn x = true ∨ X.env.scope.names.lookup x = some .local := by first | exact .inl rfl | exact .inr rfl | assumption) : DS X rm (.Assign [.Name x pos'] e pos) (sOwn i fe) := ⟨(ps_set hN hi hx he.pe hs hf).imp own_of⟩
def sAsg (f : SE) (g : SG) : SS := fun ρ => (f ρ).bind fun d => (g d ρ).bind fun ρ' => some (.nx ρ')
theorem s_asg {tg : Expr} {g : SG} (he : DX X .val e fe) (hg : DG X tg g) (hs : swapsWithSole [tg] e pos.line X.env = pure false := by rfl) (hw : swappedStores [tg] e X.env = pure none := by rfl)
    (h1 : (assignEach [tg] X.env).map (·.2) = [assign tg X.env] := by rfl) : DS X rm (.Assign [tg] e pos) (sAsg fe g) :=
  ⟨(ps_asg he.pe hg.pg hs hw h1).imp fun D σ H ⟨G0, H0, G, ρ, o, s, e, q⟩ => by
    obtain ⟨d, e1, e2⟩ := bind_some e
    obtain ⟨ρ', e3, e4⟩ := bind_some e2
    cases e4
    exact ⟨G0, H0, G, ρ, d, s, e1, fun G' H' v gx r => ⟨G0, H0, G', ρ, d, ρ', s.gx' gx, r, e3, fun σ' s' => q G' σ' H' gx.g s'⟩⟩⟩
/-- a name op= an int -/
def sAug (i : Nat) (F : PyData → PyData → Option PyData) (f : SE) : SS := fun ρ => (eV i ρ).bind fun x => (f ρ).bind fun y => (F x y).bind fun d => some (.nx (ρ.set i (.val d)))
def addI : PyData → PyData → Option PyData
  | .int i, .int j => some (.int (i + j))
  | _, _ => none
def subI : PyData → PyData → Option PyData
  | .int i, .int j => some (.int (i - j))
  | _, _ => none
theorem aug_of {op : Operator} {F : PyData → PyData → Option PyData} {k : Int → Int → Int} {i : Nat} (hF : ∀ x y d, F x y = some d → ∃ a b, x = .int a ∧ y = .int b ∧ d = .int (k a b)) :
    ∀ D σ H, tS X.K rm (sAug i F fe) D σ H → tAug i (tE X.K .val fe) (ipI k) D σ H := fun D σ H ⟨G0, H0, G, ρ, o, s, e, q⟩ => by
  obtain ⟨d1, e1, e2⟩ := bind_some e
  obtain ⟨d2, e3, e4⟩ := bind_some e2
  obtain ⟨d3, e5, e6⟩ := bind_some e4
  cases e6
  obtain ⟨a, b, rfl, rfl, rfl⟩ := hF _ _ _ e5
  unfold eV at e1
  split at e1
  · cases e1
    rename_i h
    have hi : i < ρ.length := (List.getElem?_eq_some_iff.mp h).1
    have z := s.slot i _ h
    generalize e2 : σ[i]?.getD none = w at z
    cases z with
    | val r =>
      cases r
      refine ⟨_, getD_some e2, G0, H0, G, ρ, _, s, e3, fun G' H' v gx r => ?_⟩
      cases (show Rep X.K G' (.int b) v from r)
      exact ⟨a, b, rfl, rfl, q G' _ H' gx.g ((s.gx' gx).setVal hi (.int _))⟩
  · cases e1
theorem s_augAdd (i : Nat) {pos' : Pos} (hN : X.N.Nodup) (he : DX X .val e fe) (hi : X.N[i]? = some x := by rfl) (hx : Loc X.env.scope x := by first | exact Or.inl rfl | exact Or.inr rfl)
    (hf : X.fn x = true ∨ X.env.scope.names.lookup x = some .local := by first | exact .inl rfl | exact .inr rfl | assumption) : DS X rm (.AugAssign (.Name x pos') .Add e pos) (sAug i addI fe) :=
  ⟨(ps_aug hN hi hx he.pe ip_add hf).imp (aug_of (op := .Add) fun x y d h => by
    unfold addI at h
    split at h
    · cases h; exact ⟨_, _, rfl, rfl, rfl⟩
    · cases h)⟩
theorem s_augSub (i : Nat) {pos' : Pos} (hN : X.N.Nodup) (he : DX X .val e fe) (hi : X.N[i]? = some x := by rfl) (hx : Loc X.env.scope x := by first | exact Or.inl rfl | exact Or.inr rfl)
    (hf : X.fn x = true ∨ X.env.scope.names.lookup x = some .local := by first | exact .inl rfl | exact .inr rfl | assumption) : DS X rm (.AugAssign (.Name x pos') .Sub e pos) (sAug i subI fe) :=
  ⟨(ps_aug hN hi hx he.pe ip_sub hf).imp (aug_of (op := .Sub) fun x y d h => by
    unfold subI at h
    split at h
    · cases h; exact ⟨_, _, rfl, rfl, rfl⟩
    · cases h)⟩
/-- name = [..] on one line -/
theorem s_setLcB (i : Nat) {py spos : Pos} {tg elt iter : Expr} {ifs : List Expr} {scope : Scope} {own : List (Str × Nat)} {fi : SI} {g : SG} {wide : Bool} {y : Str} (hN : X.N.Nodup) (hc : X.calm = true)
    (hsw : swapsWith (.ListComp elt [⟨tg, iter, ifs, 0⟩] scope pos) (some (.Name y py)) spos.line X.env = pure true) (hi : DI X tg iter wide fi) (ok : BlkOk X.N X.env.scope scope own)
    (hg : ∀ (s : Shared) (H : Hp) (C : Addr) (cl : List (Str × Addr)) (fp : List Addr), DGw (X.blk s H scope (compEnvC scope cl C X.env) fp) (own.map (·.2)) tg g)
    (ht : ∀ (s : Shared) (H : Hp) (C : Addr) (cl : List (Str × Addr)) (fp : List Addr), DTs (X.blk s H scope (compEnvC scope cl C X.env) fp) ifs t)
    (he : ∀ (s : Shared) (H : Hp) (C : Addr) (cl : List (Str × Addr)) (fp : List Addr), DX (X.blk s H scope (compEnvC scope cl C X.env) fp) .val elt fe)
    (hy : X.N[i]? = some y := by rfl) (hyl : X.env.scope.names.lookup y = some .local := by rfl) (hs : ∀ x, foldedSetIterable iter X.env x = pure x := by intro _; rfl) :
    (DS X rm (.Assign [.Name y py] (.ListComp elt [⟨tg, iter, ifs, 0⟩] scope pos) spos) (sSet i (eLc fi g t fe (own.map (·.2))))) ∧ DS X rm (.Assign [.Name y py] (.ListComp elt [⟨tg, iter, ifs, 0⟩] scope pos) spos) (sOwn i (eLc fi g t fe (own.map (·.2)))) := by
  have base := ps_setLc (i := i) (py := py) (spos := spos) (g := tGw X.K (own.map (·.2)) g) (tt := tT X.K t) (te := tE X.K .val fe) hc hN hy hyl hsw hi.pi ok (fun s H C cl fp => (hg s H C cl fp).pg) (fun s H C cl fp => (ht s H C cl fp).pts) (fun s H C cl fp => (he s H C cl fp).pe) hs
  have key : ∀ (σ : L2.St) (H : Hp) (Q : VK), tE X.K .new (eLc fi g t fe (own.map (·.2))) σ H Q → tLc (tI X.K wide fi) (tGw X.K (own.map (·.2)) g) (tT X.K t) (tE X.K .val fe) (own.map (·.2)) σ H Q := fun σ H Q ⟨G0, H0, G, ρ, d, s, ed, q⟩ => by
    obtain ⟨ds, e1, ed⟩ := bind_some ed
    obtain ⟨ys, e2, ed⟩ := bind_some ed
    obtain ⟨hl, rfl⟩ := if_some ed
    refine ⟨G0, H0, G, ρ, ds, s, e1, fun G1 H1 J gx1 w => fun D hD => ?_⟩
    have w' : WalkD X.K H1 G1 J ds := by
      cases wide with
      | true => exact w
      | false =>
        have z := s.gx.h.trans gx1.h
        exact ⟨fun i G2 H2 a b c e => w.goes i G2 H2 a b c (z.trans e), fun G2 H2 b c e => w.stops G2 H2 b c (z.trans e), fun i d G2 H2 x H3 a b c e => w.yields i d G2 H2 x H3 a b c (z.trans e)⟩
    exact lc_loop (s.gx' gx1) w' e2 hl hD fun G' H' v gx r => q G' H' v (gx1.trans gx) (r.start gx1.h)
  have fz : ∀ (σ : L2.St) (H : Hp) (Q : VK), tE X.K .val (eLc fi g t fe (own.map (·.2))) σ H Q → tE X.K .new (eLc fi g t fe (own.map (·.2))) σ H Q := fun σ H Q ⟨G0, H0, G, ρ, d, s, ed, q⟩ => ⟨G0, H0, G, ρ, d, s, ed, fun G' H' v x r => by
    obtain ⟨G2, x2, _, r2⟩ := RM.freeze x r
    exact q G2 H' v x2 r2⟩
  exact ⟨⟨base.imp fun D σ H h => key σ H _ (fz σ H _ (set_of D σ H h))⟩, ⟨base.imp fun D σ H h => key σ H _ (own_of D σ H h)⟩⟩
theorem s_setLc (i : Nat) {py spos : Pos} {tg elt iter : Expr} {ifs : List Expr} {scope : Scope} {own : List (Str × Nat)} {fi : SI} {g : SG} {wide : Bool} {y : Str} {vs : List Nat} (hN : X.N.Nodup) (hvs : own.map (·.2) = vs) (hc : X.calm = true)
    (hsw : swapsWith (.ListComp elt [⟨tg, iter, ifs, 0⟩] scope pos) (some (.Name y py)) spos.line X.env = pure true) (hi : DI X tg iter wide fi) (ok : BlkOk X.N X.env.scope scope own)
    (hg : ∀ (s : Shared) (H : Hp) (C : Addr) (cl : List (Str × Addr)) (fp : List Addr), DGw (X.blk s H scope (compEnvC scope cl C X.env) fp) vs tg g)
    (ht : ∀ (s : Shared) (H : Hp) (C : Addr) (cl : List (Str × Addr)) (fp : List Addr), DTs (X.blk s H scope (compEnvC scope cl C X.env) fp) ifs t)
    (he : ∀ (s : Shared) (H : Hp) (C : Addr) (cl : List (Str × Addr)) (fp : List Addr), DX (X.blk s H scope (compEnvC scope cl C X.env) fp) .val elt fe)
    (hy : X.N[i]? = some y := by rfl) (hyl : X.env.scope.names.lookup y = some .local := by rfl) (hs : ∀ x, foldedSetIterable iter X.env x = pure x := by intro _; rfl) :
    DS X rm (.Assign [.Name y py] (.ListComp elt [⟨tg, iter, ifs, 0⟩] scope pos) spos) (sSet i (eLc fi g t fe vs)) := by
  subst hvs
  exact (s_setLcB i hN hc hsw hi ok hg ht he hy hyl hs).1
theorem s_ownLc (i : Nat) {py spos : Pos} {tg elt iter : Expr} {ifs : List Expr} {scope : Scope} {own : List (Str × Nat)} {fi : SI} {g : SG} {wide : Bool} {y : Str} {vs : List Nat} (hN : X.N.Nodup) (hvs : own.map (·.2) = vs) (hc : X.calm = true)
    (hsw : swapsWith (.ListComp elt [⟨tg, iter, ifs, 0⟩] scope pos) (some (.Name y py)) spos.line X.env = pure true) (hi : DI X tg iter wide fi) (ok : BlkOk X.N X.env.scope scope own)
    (hg : ∀ (s : Shared) (H : Hp) (C : Addr) (cl : List (Str × Addr)) (fp : List Addr), DGw (X.blk s H scope (compEnvC scope cl C X.env) fp) vs tg g)
    (ht : ∀ (s : Shared) (H : Hp) (C : Addr) (cl : List (Str × Addr)) (fp : List Addr), DTs (X.blk s H scope (compEnvC scope cl C X.env) fp) ifs t)
    (he : ∀ (s : Shared) (H : Hp) (C : Addr) (cl : List (Str × Addr)) (fp : List Addr), DX (X.blk s H scope (compEnvC scope cl C X.env) fp) .val elt fe)
    (hy : X.N[i]? = some y := by rfl) (hyl : X.env.scope.names.lookup y = some .local := by rfl) (hs : ∀ x, foldedSetIterable iter X.env x = pure x := by intro _; rfl) :
    DS X rm (.Assign [.Name y py] (.ListComp elt [⟨tg, iter, ifs, 0⟩] scope pos) spos) (sOwn i (eLc fi g t fe vs)) := by
  subst hvs
  exact (s_setLcB i hN hc hsw hi ok hg ht he hy hyl hs).2

/-! ### freezing, a ghost -/
def sFz (i : Nat) (f : SS) : SS := fun ρ => match ρ[i]? with
  | some (.own d) => f (ρ.set i (.val d))
  | some (.val _) => f ρ
  | _ => none
theorem fz_of {K : PySem.W.Frag} {i : Nat} {D : Ends} {σ : L2.St} {H : Hp} (h : tS K rm (sFz i f) D σ H) : tS K rm f D σ H := by
  obtain ⟨G0, H0, G, ρ, o, s, e, q⟩ := h
  unfold sFz at e
  split at e
  · rename_i d h
    obtain ⟨G', gx, eg, s'⟩ := s.freeze h
    exact ⟨G0, H0, G', _, o, s', e, q.grow eg⟩
  · exact ⟨G0, H0, G, ρ, o, s, e, q⟩
  · cases e
theorem s_fz (i : Nat) (h : DS X rm st f) : DS X rm st (sFz i f) := ⟨h.ps.imp fun D σ H q => fz_of q⟩

/-! ### loops -/
def forGo (g : SG) (b : SS) : List PyData → Rho → Option Out
  | [], ρ => some (.nx ρ)
  | d :: ds, ρ => (g d ρ).bind fun ρ1 => (b ρ1).bind fun o => match o with
    | .nx ρ' => forGo g b ds ρ'
    | .ct ρ' => forGo g b ds ρ'
    | .bk ρ' => some (.nx ρ')
    | .rt d => some (.rt d)
def sFor (fi : SI) (g : SG) (b : SS) : SS := fun ρ => (fi ρ).bind fun ds => forGo g b ds ρ
theorem s_for {tg iter : Expr} {body : List Stmt} {fi : SI} {g : SG} (hp : PassesOwn (model X.prog X.w) X.A X.env X.xe) (hc : X.calm = true) (hi : DI X tg iter false fi) (hg : DG X tg g) (hb : DB X rm body f)
    (hs : ∀ x, foldedSetIterable iter X.env x = pure x := by intro _; rfl) : DS X rm (.For tg iter body [] pos) (sFor fi g f) :=
  ⟨(ps_for hp hc hi.pi hg.pg hb.pss hs).imp fun D σ H ⟨G0, H0, G, ρ, o, s, e, q⟩ => by
    obtain ⟨ds, e1, e2⟩ := bind_some e
    refine ⟨G0, H0, G, ρ, ds, s, e1, fun G1 H1 J gx1 w => ?_⟩
    let St (i : Nat) (σi : L2.St) (Hi : Hp) : Prop := ∃ Gi ρi, Ex G1 Gi ∧ Sok X.K G0 H0 Gi ρi σi Hi ∧ i ≤ ds.length ∧ forGo g f (ds.drop i) ρi = some o
    refine ⟨fun i m σi Hi => m = ds.length - i ∧ St i σi Hi, ⟨_, rfl, G1, ρ, Ex.refl _, s.gx' gx1, Nat.zero_le _, e2⟩, ?_⟩
    rintro i m σi Hi ⟨rfl, Gi, ρi, eg, si, hi, hr⟩
    by_cases hlt : i < ds.length
    · refine .inr ⟨w.goes i Gi Hi hlt eg si.gx.gh si.gx.h, St (i + 1), fun σ' H' p => ⟨_, by omega, rfl, p⟩, fun y H' hy => ?_⟩
      have hd := List.getElem?_eq_getElem hlt
      obtain ⟨G3, gx3, rx⟩ := w.yields i _ Gi Hi y H' hd eg si.gx.gh si.gx.h hy
      rw [List.drop_eq_getElem_cons hlt] at hr
      obtain ⟨ρ1, e1, hr⟩ := bind_some hr
      obtain ⟨o1, e2, hr⟩ := bind_some hr
      refine ⟨G0, H0, G3, ρi, _, ρ1, si.gx' gx3, rx, e1, fun σ2 s2 => ⟨G0, H0, G3, ρ1, o1, s2, e2, ?_⟩⟩
      have eg3 := eg.trans gx3.g
      cases o1 with
      | nx ρ' => exact fun G' σ' H' e4 s4 => ⟨G', ρ', eg3.trans e4, s4, hlt, hr⟩
      | ct ρ' => exact fun G' σ' H' e4 s4 => ⟨G', ρ', eg3.trans e4, s4, hlt, hr⟩
      | bk ρ' =>
        cases hr
        exact fun G' σ' H' e4 s4 => q G' σ' H' (gx1.g.trans (eg3.trans e4)) s4
      | rt d =>
        cases hr
        exact q
    · have ei : i = ds.length := by omega
      subst ei
      rw [List.drop_length] at hr
      cases hr
      exact .inl ⟨w.stops Gi Hi eg si.gx.gh si.gx.h, q Gi σi Hi (gx1.g.trans eg) si⟩⟩
def whileGo (t : SB) (b : SS) : Nat → Rho → Option Out
  | 0, _ => none
  | n + 1, ρ => (t ρ).bind fun k => if k = true then (b ρ).bind fun o => match o with
    | .nx ρ' => whileGo t b n ρ'
    | .ct ρ' => whileGo t b n ρ'
    | .bk ρ' => some (.nx ρ')
    | .rt d => some (.rt d)
    else some (.nx ρ)
def sWhile (n : Nat) (t : SB) (b : SS) : SS := fun ρ => whileGo t b n ρ
theorem s_while (n : Nat) {body : List Stmt} (hp : PassesOwn (model X.prog X.w) X.A X.env X.xe) (hc : DT X c t) (hb : DB X rm body f) : DS X rm (.While c body [] pos) (sWhile n t f) :=
  ⟨(ps_while hp hc.pt hb.pss).imp fun D σ H ⟨G0, H0, G, ρ, o, s, e, q⟩ => by
    refine ⟨fun m σi Hi => ∃ Gi ρi, Ex G Gi ∧ Sok X.K G0 H0 Gi ρi σi Hi ∧ whileGo t f m ρi = some o, ⟨n, G, ρ, Ex.refl _, s, e⟩, ?_⟩
    rintro m σi Hi ⟨Gi, ρi, eg, si, hr⟩
    cases m with
    | zero => cases hr
    | succ m =>
      obtain ⟨k, e1, hr⟩ := bind_some hr
      refine ⟨G0, H0, Gi, ρi, k, si, e1, fun G2 H2 gx2 => ?_⟩
      cases k with
      | false =>
        cases hr
        exact iteF (q G2 σi H2 (eg.trans gx2.g) (si.gx' gx2))
      | true =>
        refine iteT ?_
        obtain ⟨o1, e2, hr⟩ := bind_some (show _ = some o from hr)
        refine ⟨fun σ' H' => ∃ Gj ρj, Ex G Gj ∧ Sok X.K G0 H0 Gj ρj σ' H' ∧ whileGo t f m ρj = some o, fun σ' H' ⟨Gj, ρj, p⟩ => ⟨m, Nat.lt_succ_self _, Gj, ρj, p⟩, G0, H0, G2, ρi, o1, si.gx' gx2, e2, ?_⟩
        have eg2 := eg.trans gx2.g
        cases o1 with
        | nx ρ' => exact fun G' σ' H' e4 s4 => ⟨G', ρ', eg2.trans e4, s4, hr⟩
        | ct ρ' => exact fun G' σ' H' e4 s4 => ⟨G', ρ', eg2.trans e4, s4, hr⟩
        | bk ρ' =>
          cases hr
          exact fun G' σ' H' e4 s4 => q G' σ' H' (eg2.trans e4) s4
        | rt d =>
          cases hr
          exact q⟩
end

/-! ### defs -/
def slotsOf : List Md → List PyData → Rho
  | .bor :: ms, d :: ds => .bor d :: slotsOf ms ds
  | .scr :: ms, d :: ds => .scr d :: slotsOf ms ds
  | _ :: ms, d :: ds => .val d :: slotsOf ms ds
  | _, _ => []
def runF (n : Nat) (rm : Md) (ms : List Md) (f : SS) : List PyData → Option PyData := fun ds =>
  if ds.length = ms.length then (f (slotsOf ms ds ++ List.replicate (n - ds.length) .un)).bind fun o => match o, rm with
    | .rt d, _ => some d
    | .nx _, .val => some .none
    | _, _ => none
  else none
/-- a def's promise -/
def spD (K : PySem.W.Frag) (rm : Md) (ms : List Md) (F : List PyData → Option PyData) : Sp := fun vs H Q _ =>
  vs.length = ms.length ∧ ∃ G ds d, Ex G H ∧ RMs K H H G H ms ds vs ∧ F ds = some d ∧ ∀ G' H' v, Gx G H G' H' → RM K H H rm G' H' d v → Q v H'
def ArgMd (ms : List Md) : Prop := ∀ m ∈ ms, m = .val ∨ m = .bor ∨ m = .scr
theorem slots_ok {K : PySem.W.Frag} {H G : Hp} : ∀ {ms : List Md} {ds : List PyData} {vs : List V}, ArgMd ms → RMs K H H G H ms ds vs → (slotsOf ms ds).length = vs.length ∧
    ∀ (i : Nat) (s : Slot), (slotsOf ms ds)[i]? = some s → SlotOk K H H G H s ((vs.map some)[i]?.getD none) ∧ (∀ d, s ≠ .own d) ∧ ∀ d, s ≠ .pin d
  | _, _, _, _, .nil => ⟨rfl, fun i s h => by simp [slotsOf] at h⟩
  | m :: ms, d :: ds, v :: vs, am, .cons h t => by
    obtain ⟨l, q⟩ := slots_ok (fun m hm => am m (List.mem_cons_of_mem _ hm)) t
    have hm := am m List.mem_cons_self
    rcases hm with rfl | rfl | rfl
    · refine ⟨congrArg (· + 1) l, fun i s hs => ?_⟩
      cases i with
      | zero =>
        cases hs
        exact ⟨.val h, ⟨fun d e => (by cases e), fun d e => (by cases e)⟩⟩
      | succ i => exact q i s hs
    · refine ⟨congrArg (· + 1) l, fun i s hs => ?_⟩
      cases i with
      | zero =>
        cases hs
        exact ⟨.bor h, ⟨fun d e => (by cases e), fun d e => (by cases e)⟩⟩
      | succ i => exact q i s hs
    · refine ⟨congrArg (· + 1) l, fun i s hs => ?_⟩
      cases i with
      | zero =>
        cases hs
        exact ⟨.scr h, ⟨fun d e => (by cases e), fun d e => (by cases e)⟩⟩
      | succ i => exact q i s hs
theorem RMs.len {K : PySem.W.Frag} {H0 Hs G H : Hp} : ∀ {ms : List Md} {ds : List PyData} {vs : List V}, RMs K H0 Hs G H ms ds vs → ds.length = ms.length ∧ vs.length = ms.length
  | _, _, _, .nil => ⟨rfl, rfl⟩
  | _, _, _, .cons _ t => ⟨congrArg (· + 1) t.len.1, congrArg (· + 1) t.len.2⟩
theorem fn_ok {P : Program} {w : World} {K : PySem.W.Frag} {mg : Str → Option Value} {base : Heap} {x qual : Str} {st : Stmt} {f : Addr} {fd : FuncData} {N ps : List Str} {k n : Nat} {ms : List Md} {rm : Md} {b : SS} (F : Fun K x qual st f fd) (S : FnScope N ps (defScope st))
    (hm : ms.length = ps.length) (hn : N.length = n) (am : ArgMd ms)
    (body : ∀ (cdv : Value) (A : Around) (outer : List Env) (s : Shared) (H : Hp) (E : XK), Room k (A.deeper (PyProof.Rows.envOfC qual (defScope st) s.heap.objs.size f cdv)) → DB (cxOf CX0 P w K mg base N qual (defScope st) f cdv A outer s H E).nox rm (defBody st) b) :
    FnOk P w K mg base CX0 (k + 1) f fd ps (spD K rm ms (runF n rm ms b)) := by
  subst hn
  refine F.ok S (fun vs H Q E h => h.1.trans hm) fun cdv A outer s H vs Q E hr h => ?_
  obtain ⟨hl, G, ds, d, eg, ra, hF, q⟩ := h
  refine ⟨_, (body cdv A outer s H E hr).pss, ?_⟩
  obtain ⟨l1, so⟩ := slots_ok am ra
  have hpl : ps.length ≤ N.length := by have := congrArg List.length S.pre; rw [List.length_take] at this; omega
  obtain ⟨hl2, hF⟩ := ite_some hF
  obtain ⟨o, e1, e2⟩ := bind_some hF
  have dv : ds.length = vs.length := hl2.trans hl.symm
  refine ⟨⟨G, H, fun _ => none⟩, H, G, _, o, ⟨Gx.refl eg, ?_, fun i t ht => ?_, fun i j d1 d2 a hij h1 => ?_, fun i d h1 => ?_, Ex.refl _, fun i a vs h => (by cases h)⟩, e1, ?_⟩
  · unfold L2.start
    rw [List.length_append, List.length_append, List.length_map, List.length_replicate, List.length_replicate, l1, dv]
  · unfold L2.start
    by_cases hi : i < vs.length
    · rw [List.getElem?_append_left (by rw [l1]; exact hi)] at ht
      rw [List.getElem?_append_left (by simpa using hi)]
      exact (so i t ht).1
    · rw [List.getElem?_append_right (by rw [l1]; omega), List.getElem?_replicate] at ht
      split at ht
      · cases ht; exact .un
      · cases ht
  · exfalso
    by_cases hi : i < vs.length
    · rw [List.getElem?_append_left (by rw [l1]; exact hi)] at h1
      exact (so i _ h1).2.1 _ rfl
    · rw [List.getElem?_append_right (by rw [l1]; omega), List.getElem?_replicate] at h1
      split at h1 <;> cases h1
  · exfalso
    by_cases hi : i < vs.length
    · rw [List.getElem?_append_left (by rw [l1]; exact hi)] at h1
      exact (so i _ h1).2.2 _ rfl
    · rw [List.getElem?_append_right (by rw [l1]; omega), List.getElem?_replicate] at h1
      split at h1 <;> cases h1
  · cases o with
    | rt d' =>
      have e3 : d' = d := by cases rm <;> exact Option.some.inj e2
      subst e3
      exact fun G' H' v gx r => q G' H' v gx r
    | nx ρ' =>
      cases rm with
      | val =>
        have e3 : PyData.none = d := Option.some.inj e2
        subst e3
        exact fun G' σ' H' _ s' => q G' H' .non s'.gx .non
      | _ => cases e2
    | bk _ => cases rm <;> cases e2
    | ct _ => cases rm <;> cases e2
/-! ### calls -/
def eCall (F : List PyData → Option PyData) (r : SA) : SE := fun ρ => (r ρ).bind F
theorem RMs.call {K : PySem.W.Frag} {H0 Hs G H : Hp} : ∀ {ms : List Md} {ds : List PyData} {vs : List V}, ArgMd ms → RMs K H0 Hs G H ms ds vs → RMs K H H G H ms ds vs
  | _, _, _, _, .nil => .nil
  | m :: _, _, _, am, .cons h t => by
    refine .cons ?_ (RMs.call (fun m hm => am m (List.mem_cons_of_mem _ hm)) t)
    rcases am m List.mem_cons_self with rfl | rfl | rfl
    · exact h
    · exact h
    · exact h
section
variable {X : Cx} {rm : Md} {ms : List Md} {e : Expr} {es : List Expr} {r : SA} {pos p : Pos} {x : Str} {k : Nat} {f : Addr} {fd : FuncData} {ps : List Str} {Fn : List PyData → Option PyData}
theorem call_of {K : PySem.W.Frag} (hr : rm = .val ∨ rm = .new) (am : ArgMd ms) : ∀ σ H Q, tE K rm (eCall Fn r) σ H Q → tCall (spD K rm ms Fn) [] E0 (tA K ms r) σ H Q := fun σ H Q ⟨G0, H0, G, ρ, d, s, ed, q⟩ => by
  obtain ⟨ds, e1, e2⟩ := bind_some ed
  refine ⟨G0, H0, G, ρ, ds, s, e1, fun G' H' vs gx ra => ?_⟩
  show spD K rm ms Fn (vs ++ []) H' Q E0
  rw [List.append_nil]
  refine ⟨ra.len.2, G', ds, d, gx.gh, ra.call am, e2, fun G2 H2 v gx2 r2 => q G2 H2 v (gx.trans gx2) ?_⟩
  rcases hr with rfl | rfl
  · exact r2
  · exact RM.start gx.h r2
theorem d_call (F : FnOk X.prog X.w X.K X.mg X.base CX0 k f fd ps (spD X.K rm ms Fn)) (hr : Room k X.A) (hg : Gl X x) (hm : X.mg x = some (.ref f)) (hk : PySem.W.keepIn X.K (.ref f) = true) (hb : Binds X.K fd ps [])
    (ha : DA X ms (e :: es) r) (hrm : rm = .val ∨ rm = .new := by first | exact Or.inl rfl | exact Or.inr rfl) (am : ArgMd ms) (hdb : (x == ("__debug__" : Str)) = false := by decide) (he : starEach (e :: es) X.env = (false, eval e X.env) :: starEach es X.env := by rfl) (hpl : (backTo pos (starEach es X.env)).any (·.1) = false := by rfl) :
    DX X rm (.Call (.Name x p) (e :: es) [] pos) (eCall Fn r) :=
  ⟨(pe_call F hr hg hm hk hb .nil pass0 ha.pa hdb he hpl).imp (call_of hrm am)⟩
theorem d_call0 (F : FnOk X.prog X.w X.K X.mg X.base CX0 k f fd ps (spD X.K rm [] Fn)) (hr : Room k X.A) (hg : Gl X x) (hm : X.mg x = some (.ref f)) (hk : PySem.W.keepIn X.K (.ref f) = true) (hb : Binds X.K fd ps [])
    (hrm : rm = .val ∨ rm = .new := by first | exact Or.inl rfl | exact Or.inr rfl) (hdb : (x == ("__debug__" : Str)) = false := by decide) :
    DX X rm (.Call (.Name x p) [] [] pos) (eCall Fn aNil) :=
  ⟨(pe_call0 F hr hg hm hk hb .nil pass0 hdb).imp fun σ H Q h => by
    obtain ⟨G0, H0, G, ρ, ds, s, e1, q⟩ := call_of hrm (fun m hm => absurd hm List.not_mem_nil) σ H Q h
    cases e1
    exact q G H [] (Gx.refl s.gx.gh) .nil⟩
end
/-! ### a def that stands in the module, in one place -/
def Fn1 (P : Program) (w : World) (K : PySem.W.Frag) (mg : Str → Option Value) (base : Heap) (x : Str) (ps : List Str) (k : Nat) (rm : Md) (ms : List Md) (F : List PyData → Option PyData) : Prop :=
  ∃ (f : Addr) (fd : FuncData), FnOk P w K mg base CX0 k f fd ps (spD K rm ms F) ∧ mg x = some (.ref f) ∧ PySem.W.keepIn K (.ref f) = true ∧ Binds K fd ps []
section
variable {X : Cx} {rm : Md} {ms : List Md} {e : Expr} {es : List Expr} {r : SA} {pos p : Pos} {x : Str} {k : Nat} {ps : List Str} {Fn : List PyData → Option PyData}
theorem d_fn (F : Fn1 X.prog X.w X.K X.mg X.base x ps k rm ms Fn) (hr : Room k X.A) (ha : DA X ms (e :: es) r) (am : ArgMd ms) (hrm : rm = .val ∨ rm = .new := by first | exact Or.inl rfl | exact Or.inr rfl) (hg : Gl X x := by rfl) (hdb : (x == ("__debug__" : Str)) = false := by decide) (he : starEach (e :: es) X.env = (false, eval e X.env) :: starEach es X.env := by rfl) (hpl : (backTo pos (starEach es X.env)).any (·.1) = false := by rfl) :
    DX X rm (.Call (.Name x p) (e :: es) [] pos) (eCall Fn r) := by
  obtain ⟨f, fd, F, hm, hk, hb⟩ := F
  exact d_call F hr hg hm hk hb ha hrm am hdb he hpl
theorem d_fn0 (F : Fn1 X.prog X.w X.K X.mg X.base x ps k rm [] Fn) (hr : Room k X.A) (hrm : rm = .val ∨ rm = .new := by first | exact Or.inl rfl | exact Or.inr rfl) (hg : Gl X x := by rfl) (hdb : (x == ("__debug__" : Str)) = false := by decide) :
    DX X rm (.Call (.Name x p) [] [] pos) (eCall Fn aNil) := by
  obtain ⟨f, fd, F, hm, hk, hb⟩ := F
  exact d_call0 F hr hg hm hk hb hrm hdb
end
theorem am_nil : ArgMd [] := fun m hm => absurd hm List.not_mem_nil
theorem am_val {ms : List Md} (h : ArgMd ms) : ArgMd (.val :: ms) := fun m hm => (List.mem_cons.mp hm).elim (fun e => .inl e) (h m)
theorem am_bor {ms : List Md} (h : ArgMd ms) : ArgMd (.bor :: ms) := fun m hm => (List.mem_cons.mp hm).elim (fun e => .inr (.inl e)) (h m)
theorem am_scr {ms : List Md} (h : ArgMd ms) : ArgMd (.scr :: ms) := fun m hm => (List.mem_cons.mp hm).elim (fun e => .inr (.inr e)) (h m)
theorem v_nil : ∀ m ∈ ([] : List Md), m = .val := fun m hm => absurd hm List.not_mem_nil
theorem v_cons {ms : List Md} (h : ∀ m ∈ ms, m = .val) : ∀ m ∈ Md.val :: ms, m = .val := fun m hm => (List.mem_cons.mp hm).elim id (h m)
theorem b_nil' : ∀ m ∈ ([] : List Md), m = .bor := fun m hm => absurd hm List.not_mem_nil
theorem b_cons' {ms : List Md} (h : ∀ m ∈ ms, m = .bor) : ∀ m ∈ Md.bor :: ms, m = .bor := fun m hm => (List.mem_cons.mp hm).elim id (h m)
theorem bor1 : ∀ m ∈ [Md.bor], m = .bor := b_cons' b_nil'
theorem bor2 : ∀ m ∈ [Md.bor, Md.bor], m = .bor := b_cons' bor1
/-- the law's promise from its function -/
theorem law_sp {K : PySem.W.Frag} {H : Hp} {a : Addr} {ns : List Int} {F : List PyData → Option PyData} (hS : SqL K H a (ns.map V.int)) (h : F [.list (ns.map .int)] = some (.bool true)) :
    spD K .val [.scr] F [.ref a] H (fun v _ => v = .bl true) fun _ _ _ => False := by
  have e0 : Ex (fun _ => none) H := fun b o z => by
    have z' : (none : Option HO) = some o := z
    cases z'
  refine ⟨rfl, fun _ => none, [.list (ns.map .int)], .bool true, e0, RMs.cons (m := .scr) ⟨a, ns, rfl, rfl, hS⟩ RMs.nil, h, fun G' H' v _ r => ?_⟩
  cases (show Rep K G' (.bool true) v from r)
  rfl
end DV

namespace DV
open PySem L2

/-! ### data read from values -/
section
variable {K : PySem.W.Frag} {G H : Hp}
mutual
theorem Rep.dp (e : Ex G H) : ∀ {d : PyData} {v : V}, d.canLay0 = true → Rep K G d v → Dp K H v d
  | _, _, _, .non => .non
  | _, _, _, .bl b => .bl b
  | _, _, _, .int i => .int i
  | _, _, _, .str x => .str x
  | _, _, c, .lst h r => .lst (.inl (e.rd h)) (RepA.dp e (by simpa [PyData.canLay0] using c) r)
  | _, _, c, .tup h r => .tup (e.sqt (sqtOf h)) (RepA.dp e (by simpa [PyData.canLay0] using c) r)
  | _, _, c, .dK h k r => by simp [PyData.canLay0] at c
  | _, _, c, .dT h k r => by simp [PyData.canLay0] at c
theorem RepA.dp (e : Ex G H) : ∀ {ds : List PyData} {vs : List V}, PyData.canLayAll0 ds = true → RepA K G ds vs → DpAll K H vs ds
  | _, _, _, .nil => .nil
  | d :: ds, _, c, .cons h r => by
    have c' : d.canLay0 = true ∧ PyData.canLayAll0 ds = true := by simpa [PyData.canLayAll0] using c
    exact .cons (Rep.dp e c'.1 h) (RepA.dp e c'.2 r)
end
theorem RepB.dp (e : Ex G H) {d : PyData} {v : V} (c : d.canLay0 = true) (h : RepB K G H d v) : Dp K H v d := by
  cases h with
  | val h => exact h.dp e c
  | lst h r => exact .lst (SqL.of h) (r.dp e (by simpa [PyData.canLay0] using c))
  | dK h k r => simp [PyData.canLay0] at c
  | dT h k r => simp [PyData.canLay0] at c
/-- a scalar's result -/
theorem scalar {m : Md} (hm : m = .val ∨ m = .bor) {d : PyData} {v : V} (r : Rep K G d v) : ∀ H0, RM K H0 H m G H d v := fun H0 => by
  rcases hm with rfl | rfl
  · exact r
  · exact .val r
end

/-! ### numbers -/
section
variable {K : PySem.W.Frag} {X : Cx}
def int2 (g : Int → Int → Option PyData) : PyData → PyData → Option PyData
  | .int i, .int j => g i j
  | _, _ => none
theorem int2_some {g : Int → Int → Option PyData} {d1 d2 d : PyData} (h : int2 g d1 d2 = some d) : ∃ i j, d1 = .int i ∧ d2 = .int j ∧ g i j = some d := by
  unfold int2 at h
  split at h
  · exact ⟨_, _, rfl, rfl, h⟩
  · cases h
/-- two ints under a condition give an int -/
def intIf (C : Int → Int → Prop) [∀ i j, Decidable (C i j)] (g : Int → Int → Int) : PyData → PyData → Option PyData := int2 fun i j => if C i j then some (.int (g i j)) else none
theorem opf_intIf (C : Int → Int → Prop) [∀ i j, Decidable (C i j)] (g : Int → Int → Int) : OpF K .val (rI C fun i j => .int (g i j)) (intIf C g) := fun G H d1 d2 d x y Q e r1 r2 h q => by
  obtain ⟨i, j, rfl, rfl, h⟩ := int2_some h
  obtain ⟨c, rfl⟩ := if_some h
  cases r1.int
  cases r2.int
  exact ⟨i, j, rfl, rfl, c, q G H _ (Gx.refl e) fun _ => .int _⟩
def oSub : PyData → PyData → Option PyData := int2 fun i j => some (.int (i - j))
theorem opf_sub : OpF K .val (rI0 fun i j => .int (i - j)) oSub := fun G H d1 d2 d x y Q e r1 r2 h q => by
  obtain ⟨i, j, rfl, rfl, h⟩ := int2_some h
  cases h
  cases r1.int
  cases r2.int
  exact ⟨i, j, rfl, rfl, q G H _ (Gx.refl e) fun _ => .int _⟩
instance (i j : Int) : Decidable (CDivW i j) := by unfold CDivW; exact inferInstance
instance (i j : Int) : Decidable (CPow i j) := by unfold CPow; exact inferInstance
instance (i j : Int) : Decidable (CMul i j) := by unfold CMul; exact inferInstance
instance (j : Int) : Decidable (0 < j ∧ j < 18446744073709551616) := inferInstance
def oFdiv := intIf (fun _ j => 0 < j ∧ j < 18446744073709551616) fun i j => i / j
theorem opf_fdiv : OpF K .val (rI CDivW fun i j => .int (i / j)) oFdiv := fun G H d1 d2 d x y Q e r1 r2 h q => by
  obtain ⟨i, j, rfl, rfl, h⟩ := int2_some h
  obtain ⟨c, rfl⟩ := if_some h
  cases r1.int
  cases r2.int
  exact ⟨i, j, rfl, rfl, wide_div (b := 64) c.1 (by omega) (by decide) (by decide), q G H _ (Gx.refl e) fun _ => .int _⟩
def oMod := intIf (fun _ j => 0 < j) fun i j => i % j
def oPow := intIf CPow fun i j => i ^ j.toNat
def oNeg : PyData → Option PyData
  | .int i => some (.int (-i))
  | _ => none
theorem unf_neg : UnF K .val (rU fun i => .int (-i)) oNeg := fun G H d1 d x Q e r1 h q => by
  unfold oNeg at h
  split at h
  · cases h
    cases r1.int
    exact ⟨_, rfl, q G H _ (Gx.refl e) fun _ => .int _⟩
  · cases h
def cmpI (p : Int → Int → Bool) : PyData → PyData → Option PyData := int2 fun i j => some (.bool (p i j))
theorem opf_cmpI (p : Int → Int → Bool) : OpF K .val (rI0 fun i j => .bl (p i j)) (cmpI p) := fun G H d1 d2 d x y Q e r1 r2 h q => by
  obtain ⟨i, j, rfl, rfl, h⟩ := int2_some h
  cases h
  cases r1.int
  cases r2.int
  exact ⟨i, j, rfl, rfl, q G H _ (Gx.refl e) fun _ => .bl _⟩
def oLt := cmpI fun i j => decide (i < j)
def oLe := cmpI fun i j => decide (i ≤ j)
def oGt := cmpI fun i j => decide (j < i)
def oGe := cmpI fun i j => decide (j ≤ i)

/-! ### +, * on any kind -/
def rOr (r r' : R2) : R2 := fun x y H Q => r x y H Q ∨ r' x y H Q
theorem OpR.or {f : Value → Value → Sem Value} {r r' : R2} (h : OpR X f r) (h' : OpR X f r') : OpR X f (rOr r r') := by
  intro pins s σ H x y v u Q I rx ry q
  rcases q with q | q
  · exact h pins s σ H x y v u Q I rx ry q
  · exact h' pins s σ H x y v u Q I rx ry q
def oAdd : PyData → PyData → Option PyData
  | .int i, .int j => some (.int (i + j))
  | .str x, .str y => if x.length + y.length ≤ sizeLine then some (.str (x ++ y)) else none
  | .list xs, .list ys => if xs.length + ys.length ≤ sizeLine then some (.list (xs ++ ys)) else none
  | _, _ => none
def oCat : PyData → PyData → Option PyData
  | .list xs, .list ys => if xs.length + ys.length ≤ sizeLine then some (.list (xs ++ ys)) else none
  | _, _ => none
def rLstCat : R2 := fun x y H Q => ∃ l b xs zs, x = .ref l ∧ y = .ref b ∧ Rd H l (.lst xs) ∧ Rd H b (.lst zs) ∧ xs.length + zs.length ≤ sizeLine ∧ ∀ p, H p = none → Q (.ref p) (upd H p (.lst (xs ++ zs)))
theorem rd_lst {pins : List (Addr × Obj)} {σ : L2.St} {H : Hp} {s : Shared} {l : Addr} {xs : List V} (I : Inv X pins σ H s) (h : Rd H l (.lst xs)) :
    xs.length ≤ sizeLine ∧ ∃ (its : List Value) (n : Nat), Vals xs its ∧ xs.length = its.length ∧ s.heap.get? l = some { cls := .type "list", data := .seq its.toArray n } := by
  obtain ⟨z, its, n, r, e⟩ := h.ok I.hok
  exact ⟨z, its, n, r, r.length, e⟩
theorem op_lstCat : OpR X (binaryOp .Add) rLstCat := by
  intro pins s σ H x y v u Q I rx ry h
  obtain ⟨l, b, xs, zs, rfl, rfl, hH, hB, hz, q⟩ := h
  cases rx
  cases ry
  obtain ⟨z, its, n, r, hl, e⟩ := rd_lst I hH
  obtain ⟨z2, its2, n2, r2, hl2, e2⟩ := rd_lst I hB
  refine PySem.P.add_list e e2 ?_ (by rw [List.size_toArray, List.size_toArray]; omega)
  have ea : its.toArray ++ its2.toArray = (its ++ its2).toArray := by simp
  rw [ea]
  exact ⟨.ref _, _, I.lnew (t' := s.toks) (r.append r2) (by rw [List.length_append]; omega), rfl, q _ I.fresh⟩
theorem RepB.rd {G H : Hp} (e : Ex G H) {ds : List PyData} {v : V} (h : RepB K G H (.list ds) v) : ∃ a vs, v = .ref a ∧ Rd H a (.lst vs) ∧ RepA K G ds vs := by
  obtain ⟨a, vs, h1, st, r⟩ := h.seq
  exact ⟨a, vs, h1, st H e (Ex.refl _), r⟩
/-- a new list as a value: frozen, or own -/
theorem newList {m : Md} (hm : m = .val ∨ m = .new) {G H : Hp} (e : Ex G H) {p : Addr} (np : H p = none) {ds : List PyData} {vs : List V} (r : RepA K G ds vs) {Q : VK}
    (q : ∀ G' H' v, Gx G H G' H' → (∀ H0, RM K H0 H m G' H' (.list ds) v) → Q v H') : Q (.ref p) (upd H p (.lst vs)) := by
  rcases hm with rfl | rfl
  · exact q _ _ _ (Gx.new e np) fun _ => .lst (.inl upd_same) (r.mono (Ex.new (e.back np)))
  · exact q _ _ _ (Gx.mine e np) fun _ => ⟨p, rfl, np, e.back np, .lst upd_same r⟩
theorem opf_cat {m : Md} (hm : m = .val ∨ m = .new) : OpF K m rLstCat oCat := fun G H d1 d2 d x y Q e r1 r2 h q => by
  unfold oCat at h
  split at h
  · obtain ⟨hl, rfl⟩ := if_some h
    obtain ⟨a, vs, rfl, h1, ra⟩ := r1.rd e
    obtain ⟨b, us, rfl, h2, rb⟩ := r2.rd e
    exact ⟨a, b, vs, us, rfl, rfl, h1, h2, by rw [← ra.len, ← rb.len]; exact hl, fun p np => newList hm e np (ra.app rb) q⟩
  · cases h
def rAddAll : R2 := rOr (rI0 fun i j => .int (i + j)) (rOr (fun x y H Q => ∃ i j, x = .str i ∧ y = .str j ∧ i.length + j.length ≤ sizeLine ∧ Q (.str (i ++ j)) H) rLstCat)
theorem op_addAll : OpR X (binaryOp .Add) rAddAll := OpR.or op_add (OpR.or op_add_str op_lstCat)
theorem opf_addAll : OpF K .val rAddAll oAdd := fun G H d1 d2 d x y Q e r1 r2 h q => by
  unfold oAdd at h
  split at h
  · cases h
    cases r1.int
    cases r2.int
    exact .inl ⟨_, _, rfl, rfl, q G H _ (Gx.refl e) fun _ => .int _⟩
  · obtain ⟨hl, rfl⟩ := if_some h
    cases r1.str
    cases r2.str
    exact .inr (.inl ⟨_, _, rfl, rfl, hl, q G H _ (Gx.refl e) fun _ => .str _⟩)
  · exact .inr (.inr (opf_cat (.inl rfl) G H _ _ d x y Q e r1 r2 h q))
  · cases h
def repS (x : Str) (n : Nat) : Str := ⟨(List.replicate n x.cps.toList).flatten.toArray⟩
def oMul : PyData → PyData → Option PyData
  | .int i, .int j => if CMul i j then some (.int (i * j)) else none
  | .str x, .int n => if 0 ≤ n ∧ n ≤ 1000 ∧ x.length ≤ 10000 then some (.str (repS x n.toNat)) else none
  | .list xs, .int n => if 0 ≤ n ∧ n ≤ 1000 ∧ xs.length ≤ 10000 then some (.list (List.replicate n.toNat xs).flatten) else none
  | _, _ => none
theorem mulOk (x : Str) (n : Int) (h : 0 ≤ n ∧ n ≤ 1000 ∧ x.length ≤ 10000) : MulOk x n := by
  obtain ⟨h0, h1, h2⟩ := h
  refine ⟨?_, fun hn _ => ?_, fun hn _ => ?_⟩
  · rw [Bool.or_eq_false_iff]; exact ⟨decide_eq_false (by omega), decide_eq_false (by omega)⟩
  · have : (10000 : Int) ≤ (2 ^ 63 - 1) / n := Int.le_ediv_of_mul_le (by omega) (by omega)
    omega
  · unfold Builtin.Str.tooLong
    have : x.length * n.toNat ≤ 10000 * 1000 := Nat.mul_le_mul h2 (by omega)
    rw [sizeLine_eq]
    exact decide_eq_false (by omega)
theorem foldl_cps (l : List Nat) : ∀ (k : Nat) (acc : List Nat), List.foldl (fun x1 x2 => x1 ++ x2) acc.toArray (List.replicate k l.toArray) = (acc ++ (List.replicate k l).flatten).toArray
  | 0, acc => by simp
  | k + 1, acc => by
    have e : acc.toArray ++ l.toArray = (acc ++ l).toArray := by simp
    have e2 : (acc ++ l) ++ (List.replicate k l).flatten = acc ++ (List.replicate (k + 1) l).flatten := by
      rw [List.replicate_succ, List.flatten_cons, List.append_assoc]
    rw [← e2, ← foldl_cps l k (acc ++ l), ← e, List.replicate_succ, List.foldl_cons]
theorem mul_repS (x : Str) (n : Int) (h : 0 ≤ n) : Txt.mul x n = repS x n.toNat := by
  unfold Txt.mul repS
  by_cases h1 : n < 1
  · have : n = 0 := by omega
    subst this
    rw [if_pos h1]; rfl
  · rw [if_neg h1]
    by_cases h2 : (n == 1 || x.length == 0) = true
    · rw [if_pos h2]
      rw [Bool.or_eq_true] at h2
      rcases h2 with h2 | h2
      · have : n = 1 := eq_of_beq h2
        subst this
        obtain ⟨c⟩ := x
        simp
      · have h3 : x.cps.size = 0 := eq_of_beq h2
        obtain ⟨c⟩ := x
        have : c = #[] := by simpa using h3
        subst this
        simp
    · rw [if_neg h2]
      have := foldl_cps x.cps.toList n.toNat []
      simp only [Array.toArray_toList, List.nil_append] at this
      rw [← this]
def rMulS : R2 := fun x y H Q => ∃ z n, x = .str z ∧ y = .int n ∧ (0 ≤ n ∧ n ≤ 1000 ∧ z.length ≤ 10000) ∧ Q (.str (repS z n.toNat)) H
theorem op_mulS : OpR X (binaryOp .Mult) rMulS := by
  intro pins s σ H x y v u Q I rx ry h
  obtain ⟨z, n, rfl, rfl, hz, q⟩ := h
  obtain ⟨t, rfl⟩ := rx
  obtain ⟨t', rfl⟩ := ry
  refine SB.mul (mulOk z n hz) fun t2 k => ?_
  rw [mul_repS z n hz.1]
  exact ⟨.str _, H, I.tok _, ⟨_, rfl⟩, q⟩
def rMulL : R2 := fun x y H Q => ∃ l k xs, x = .ref l ∧ y = .int k ∧ H l = some (.lst xs) ∧ -(2 ^ 63) ≤ k ∧ k < 2 ^ 63 ∧ xs.length * k.toNat ≤ sizeLine ∧ ∀ p, H p = none → Q (.ref p) (upd H p (.lst (List.replicate k.toNat xs).flatten))
def rMulAll : R2 := rOr (rI CMul fun i j => .int (i * j)) rMulS
def oMulS : PyData → PyData → Option PyData
  | .int i, .int j => if CMul i j then some (.int (i * j)) else none
  | .str x, .int n => if 0 ≤ n ∧ n ≤ 1000 ∧ x.length ≤ 10000 then some (.str (repS x n.toNat)) else none
  | _, _ => none
theorem op_mulAll : OpR X (binaryOp .Mult) rMulAll := OpR.or op_mul op_mulS
theorem opf_mulAll : OpF K .val rMulAll oMulS := fun G H d1 d2 d x y Q e r1 r2 h q => by
  unfold oMulS at h
  split at h
  · obtain ⟨c, rfl⟩ := if_some h
    cases r1.int
    cases r2.int
    exact .inl ⟨_, _, rfl, rfl, c, q G H _ (Gx.refl e) fun _ => .int _⟩
  · obtain ⟨c, rfl⟩ := if_some h
    cases r1.str
    cases r2.int
    exact .inr ⟨_, _, rfl, rfl, c, q G H _ (Gx.refl e) fun _ => .str _⟩
  · cases h

/-! ### ==, in, is -/
def oEq (a b : PyData) : Option PyData := if SeqAt.shaped a = true ∧ SeqAt.shaped b = true then some (.bool (PyData.eqv a b)) else none
def oNe (a b : PyData) : Option PyData := if SeqAt.shaped a = true ∧ SeqAt.shaped b = true then some (.bool (!PyData.eqv a b)) else none
theorem opf_eq : OpF K .val (rEqD K) oEq := fun G H d1 d2 d x y Q e r1 r2 h q => by
  obtain ⟨⟨c1, c2⟩, rfl⟩ := if_some h
  exact ⟨d1, d2, r1.dp e (SeqAt.canLay_of_shaped c1), r2.dp e (SeqAt.canLay_of_shaped c2), c1, c2, q G H _ (Gx.refl e) fun _ => .bl _⟩
theorem opf_ne : OpF K .val (rNeD K) oNe := fun G H d1 d2 d x y Q e r1 r2 h q => by
  obtain ⟨⟨c1, c2⟩, rfl⟩ := if_some h
  exact ⟨d1, d2, r1.dp e (SeqAt.canLay_of_shaped c1), r2.dp e (SeqAt.canLay_of_shaped c2), c1, c2, q G H _ (Gx.refl e) fun _ => .bl _⟩
def isNon : PyData → Bool
  | .none => true
  | _ => false
def oIsN (a b : PyData) : Option PyData := match b with
  | .none => some (.bool (isNon a))
  | _ => none
def oNotN (a b : PyData) : Option PyData := match b with
  | .none => some (.bool (!isNon a))
  | _ => none
theorem isN_dec {G H : Hp} {d : PyData} {v : V} (r : RepB K G H d v) : decide (v = .non) = isNon d := by
  cases r with
  | val r => cases r <;> rfl
  | lst _ _ => rfl
  | dK _ _ _ => rfl
  | dT _ _ _ => rfl
theorem opf_isN : OpF K .val (fun x y H Q => y = .non ∧ Q (.bl (decide (x = .non))) H) oIsN := fun G H d1 d2 d x y Q e r1 r2 h q => by
  unfold oIsN at h
  split at h
  · cases h
    cases r2.non
    exact ⟨rfl, q G H _ (Gx.refl e) fun _ => by rw [isN_dec r1]; exact .bl _⟩
  · cases h
theorem opf_notN : OpF K .val (fun x y H Q => y = .non ∧ Q (.bl (!decide (x = .non))) H) oNotN := fun G H d1 d2 d x y Q e r1 r2 h q => by
  unfold oNotN at h
  split at h
  · cases h
    cases r2.non
    exact ⟨rfl, q G H _ (Gx.refl e) fun _ => by rw [isN_dec r1]; exact .bl _⟩
  · cases h
def oIsB (a b : PyData) : Option PyData := match a, b with
  | .bool x, .bool y => some (.bool (decide (x = y)))
  | _, _ => none
def oNotB (a b : PyData) : Option PyData := match a, b with
  | .bool x, .bool y => some (.bool (!decide (x = y)))
  | _, _ => none
theorem opf_isB : OpF K .val rIsB oIsB := fun G H d1 d2 d x y Q e r1 r2 h q => by
  unfold oIsB at h
  split at h
  · cases h
    cases r1.bl
    cases r2.bl
    exact ⟨_, _, rfl, rfl, q G H _ (Gx.refl e) fun _ => .bl _⟩
  · cases h
theorem opf_notB : OpF K .val rNotB oNotB := fun G H d1 d2 d x y Q e r1 r2 h q => by
  unfold oNotB at h
  split at h
  · cases h
    cases r1.bl
    cases r2.bl
    exact ⟨_, _, rfl, rfl, q G H _ (Gx.refl e) fun _ => .bl _⟩
  · cases h
/-- a sign in a text -/
def oInS (a b : PyData) : Option PyData := match a, b with
  | .str x, .str y => if x.cps.size = 1 then some (.bool (decide (x.cps.getD 0 0 ∈ y.cps.toList))) else none
  | _, _ => none
def oNotInS (a b : PyData) : Option PyData := match a, b with
  | .str x, .str y => if x.cps.size = 1 then some (.bool (!decide (x.cps.getD 0 0 ∈ y.cps.toList))) else none
  | _, _ => none
theorem one_sign {x : Str} (h : x.cps.size = 1) : x = ⟨#[x.cps.getD 0 0]⟩ := by
  obtain ⟨⟨l⟩⟩ := x
  match l, h with
  | [c], _ => rfl
theorem opf_inS : OpF K .val (fun x y H Q => ∃ (c : Nat) (z : Str), x = .str ⟨#[c]⟩ ∧ y = .str z ∧ Q (.bl (decide (c ∈ z.cps.toList))) H) oInS := fun G H d1 d2 d x y Q e r1 r2 h q => by
  unfold oInS at h
  split at h
  · obtain ⟨c, rfl⟩ := if_some h
    cases r1.str
    cases r2.str
    exact ⟨_, _, congrArg _ (one_sign c), rfl, q G H _ (Gx.refl e) fun _ => .bl _⟩
  · cases h
theorem opf_notInS : OpF K .val (fun x y H Q => ∃ (c : Nat) (z : Str), x = .str ⟨#[c]⟩ ∧ y = .str z ∧ Q (.bl (!decide (c ∈ z.cps.toList))) H) oNotInS := fun G H d1 d2 d x y Q e r1 r2 h q => by
  unfold oNotInS at h
  split at h
  · obtain ⟨c, rfl⟩ := if_some h
    cases r1.str
    cases r2.str
    exact ⟨_, _, congrArg _ (one_sign c), rfl, q G H _ (Gx.refl e) fun _ => .bl _⟩
  · cases h
end
end DV

namespace DV
open PySem L2

/-! ### subscripts and slices -/
section
variable {K : PySem.W.Frag} {X : Cx} {a b e : Expr} {f g : SE} {m : Md} {pos p2 : Pos} {lo hi : Option Expr}
theorem RepA.atI {G : Hp} {ds : List PyData} {vs : List V} {i : Int} {d : PyData} (r : RepA K G ds vs) (h : L2.atI ds i = some d) : ∃ v, L2.atI vs i = some v ∧ Rep K G d v := by
  unfold L2.atI at h ⊢
  rw [r.len] at h
  cases e : ixN vs.length i with
  | none => rw [e] at h; cases h
  | some j => rw [e] at h; exact r.get h
def oIx : PyData → PyData → Option PyData
  | .list ds, .int i => atI ds i
  | .tuple ds, .int i => atI ds i
  | .str z, .int i => if z.length ≤ sizeLine then (atI z.cps.toList i).map fun c => .str ⟨#[c]⟩ else none
  | _, _ => none
theorem oIx_inv : ∀ {d1 d2 d : PyData}, oIx d1 d2 = some d → ∃ i, d2 = .int i ∧ ((∃ l, d1 = .list l ∧ atI l i = some d) ∨ (∃ l, d1 = .tuple l ∧ atI l i = some d) ∨ ∃ z c, d1 = .str z ∧ z.length ≤ sizeLine ∧ atI z.cps.toList i = some c ∧ d = .str ⟨#[c]⟩)
  | .list l, .int i, d, h => ⟨i, rfl, .inl ⟨l, rfl, h⟩⟩
  | .tuple l, .int i, d, h => ⟨i, rfl, .inr (.inl ⟨l, rfl, h⟩)⟩
  | .str z, .int i, d, h => by
    obtain ⟨hl, h⟩ := ite_some (show (if z.length ≤ sizeLine then (atI z.cps.toList i).map fun c => PyData.str ⟨#[c]⟩ else none) = some d from h)
    cases h2 : atI z.cps.toList i with
    | none => rw [h2] at h; cases h
    | some c =>
      rw [h2] at h
      cases h
      exact ⟨i, rfl, .inr (.inr ⟨z, c, rfl, hl, h2, rfl⟩)⟩
theorem opf_ix : OpF K .val (rIx K) oIx := fun G H d1 d2 d x y Q e r1 r2 h q => by
  obtain ⟨i, rfl, ⟨l, rfl, h⟩ | ⟨l, rfl, h⟩ | ⟨z, c, rfl, hl, h7, rfl⟩⟩ := oIx_inv h
  · cases r2.int
    obtain ⟨a, vs, rfl, h1, ra⟩ := r1.rd e
    obtain ⟨v, h2, h3⟩ := ra.atI h
    exact .inl ⟨a, vs, _, v, rfl, rfl, .inl h1, h2, q G H _ (Gx.refl e) fun _ => h3⟩
  · cases r2.int
    obtain ⟨a, vs, rfl, h1, ra⟩ := r1.seqT
    obtain ⟨v, h2, h3⟩ := ra.atI h
    exact .inr (.inl ⟨a, vs, _, v, rfl, rfl, h1 H e, h2, q G H _ (Gx.refl e) fun _ => h3⟩)
  · cases r2.int
    cases r1.str
    exact .inr (.inr ⟨_, _, c, rfl, rfl, hl, h7, q G H _ (Gx.refl e) fun _ => .str _⟩)
theorem d_ix (ha : DX X .bor a f) (hb : DX X .bor b g) (hs : PlainIx b := by intro _ _; rfl) : DX X .val (.Subscript a b pos) (eOp oIx f g) :=
  ⟨(pe_ix ix_seq ha.pe hb.pe hs).imp fun _ _ _ q => op_two opf_ix q⟩
/-- an item of the script -/
theorem d_ixS (ha : DX X .scr a f) (hb : DX X .val b g) (hs : PlainIx b := by intro _ _; rfl) : DX X .val (.Subscript a b pos) (eOp oIx f g) :=
  ⟨(pe_ix ix_list ha.pe hb.pe hs).imp fun σ H Q ⟨G0, H0, G, ρ, d, s, ed, q⟩ => by
    obtain ⟨d1, e1, ed⟩ := bind_some ed
    obtain ⟨d2, e2, ed⟩ := bind_some ed
    refine ⟨G0, H0, G, ρ, d1, s, e1, fun G1 H1 x gx1 r1 => ⟨G0, H0, G1, ρ, d2, s.gx' gx1, e2, fun G2 H2 y gx2 r2 => ?_⟩⟩
    obtain ⟨p, ns, rfl, rfl, hq⟩ := RepS.mono gx2.h r1
    obtain ⟨i, rfl, ⟨l, hl, h⟩ | ⟨l, hl, h⟩ | ⟨z, c, hl, _⟩⟩ := oIx_inv ed
    · cases hl
      cases (show Rep X.K G2 (.int i) y from r2)
      obtain ⟨v, h2, h3⟩ := RepA.atI (RepA.ints (K := X.K) (G := G2) ns) h
      exact ⟨p, _, _, v, rfl, rfl, hq, h2, q G2 H2 v (gx1.trans gx2) h3⟩
    · cases hl
    · cases hl⟩
/-- parts of slices -/
abbrev SO := Rho → Option (Option Int)
def tO (K : PySem.W.Frag) (f : SO) : TO := fun σ H Q => ∃ G0 H0 G ρ o, Sok K G0 H0 G ρ σ H ∧ f ρ = some o ∧ ∀ G' H', Gx G H G' H' → Q o H'
structure DO (X : Cx) (e : Option Expr) (f : SO) : Prop where
  po : PO X e (tO X.K f)
theorem _root_.L2.PO.imp {e : Option Expr} {t t' : TO} (h : PO X e t) (w : ∀ σ H Q, t' σ H Q → t σ H Q) : PO X e t' := ⟨fun pins s σ H Q I q => h.run pins s σ H Q I (w σ H Q q)⟩
def oNo : SO := fun _ => some none
def asI : PyData → Option (Option Int)
  | .int i => some (some i)
  | _ => none
def oSo (f : SE) : SO := fun ρ => (f ρ).bind asI
theorem o_no : DO X none oNo := ⟨po_none.imp fun σ H Q ⟨G0, H0, G, ρ, o, s, ed, q⟩ => by
  cases ed
  exact q G H (Gx.refl s.gx.gh)⟩
theorem o_so (h : DX X .val e f) : DO X (some e) (oSo f) := ⟨(po_some h.pe).imp fun σ H Q ⟨G0, H0, G, ρ, o, s, ed, q⟩ => by
  obtain ⟨d1, e1, ed⟩ := bind_some ed
  unfold asI at ed
  split at ed
  · cases ed
    refine ⟨G0, H0, G, ρ, _, s, e1, fun G1 H1 v gx r => ?_⟩
    cases (show Rep X.K G1 (.int _) v from r)
    exact ⟨_, rfl, q G1 H1 gx⟩
  · cases ed⟩
def cutD (xs : List PyData) (lo hi : Option Int) : List PyData := (xs.drop (HT.sIx xs.length 0 lo)).take (HT.sIx xs.length xs.length hi - HT.sIx xs.length 0 lo)
theorem RepA.cut {G : Hp} {ds : List PyData} {vs : List V} (r : RepA K G ds vs) (lo hi : Option Int) : RepA K G (cutD ds lo hi) (cutV vs lo hi) := by
  unfold cutD cutV
  rw [r.len]
  exact (r.drop _).take _
def oSl (d : PyData) (lo hi : Option Int) : Option PyData := match d with
  | .list ds => some (.list (cutD ds lo hi))
  | .str z => if z.length ≤ sizeLine then some (.str (cutS z lo hi)) else none
  | _ => none
def oSlL (d : PyData) (lo hi : Option Int) : Option PyData := match d with
  | .list ds => some (.list (cutD ds lo hi))
  | _ => none
def eSl (F : PyData → Option Int → Option Int → Option PyData) (f : SE) (g h : SO) : SE := fun ρ => (f ρ).bind fun d => (g ρ).bind fun lo => (h ρ).bind fun hi => F d lo hi
variable {gl gh : SO}
theorem sl_three {K : PySem.W.Frag} {r : V → Option Int → Option Int → Hp → VK → Prop} {mo : Md} {F : PyData → Option Int → Option Int → Option PyData}
    (hF : ∀ (G0 H0 G1 H1 G H : Hp) (d1 d : PyData) (lo hi : Option Int) (x : V) (Q : VK), Ex G H → Gx G1 H1 G H → RM K H0 H0 mo G H d1 x → F d1 lo hi = some d → (∀ G' H' v, Gx G H G' H' → RM K H0 H m G' H' d v → Q v H') → r x lo hi H Q) (hmo : ∀ {H0 Hs G H d v}, RM K H0 Hs mo G H d v → RM K H0 H0 mo G H d v) :
    ∀ σ H Q, tE K m (eSl F f gl gh) σ H Q → tSl r (tE K mo f) (tO K gl) (tO K gh) σ H Q := fun σ H Q ⟨G0, H0, G, ρ, d, s, ed, q⟩ => by
  obtain ⟨d1, e1, ed⟩ := bind_some ed
  obtain ⟨lo, e2, ed⟩ := bind_some ed
  obtain ⟨hi, e3, ed⟩ := bind_some ed
  refine ⟨G0, H0, G, ρ, d1, s, e1, fun G1 H1 x gx1 r1 => ⟨G0, H0, G1, ρ, lo, s.gx' gx1, e2, fun G2 H2 gx2 => ⟨G0, H0, G2, ρ, hi, (s.gx' gx1).gx' gx2, e3, fun G3 H3 gx3 => ?_⟩⟩⟩
  have gx := (gx1.trans gx2).trans gx3
  exact hF G0.g H0 G H G3 H3 d1 d lo hi x Q gx3.gh gx (hmo (r1.mono (gx2.trans gx3))) ed fun G' H' v gx4 r4 => q G' H' v (gx.trans gx4) (r4.start gx.h)
theorem d_slice (ha : DX X .bor e f) (hl : DO X lo gl) (hu : DO X hi gh) : DX X .val (.Subscript e (.Slice lo hi none p2) pos) (eSl oSl f gl gh) :=
  ⟨(pe_slice (SlR.or sl_list sl_str) ha.pe hl.po hu.po).imp (sl_three (mo := .bor) (fun G0 H0 G1 H1 G H d1 d lo hi x Q e gx r1 h q => by
    unfold oSl at h
    split at h
    · cases h
      obtain ⟨a, vs, rfl, h1, ra⟩ := RepB.rd e r1
      exact .inl ⟨a, vs, rfl, .inl h1, fun p np => newList (.inl rfl) e np (ra.cut lo hi) fun G' H' v gx' r' => q G' H' v gx' (r' H0)⟩
    · obtain ⟨hz, rfl⟩ := if_some h
      cases RepB.str r1
      exact .inr ⟨_, rfl, hz, q G H _ (Gx.refl e) (.str _)⟩
    · cases h) fun h => h)⟩
theorem d_sliceN (ha : DX X .bor e f) (hl : DO X lo gl) (hu : DO X hi gh) : DX X .new (.Subscript e (.Slice lo hi none p2) pos) (eSl oSlL f gl gh) :=
  ⟨(pe_slice sl_list ha.pe hl.po hu.po).imp (sl_three (mo := .bor) (fun G0 H0 G1 H1 G H d1 d lo hi x Q e gx r1 h q => by
    unfold oSlL at h
    split at h
    · cases h
      obtain ⟨a, vs, rfl, h1, ra⟩ := RepB.rd e r1
      exact ⟨a, vs, rfl, .inl h1, fun p np => newList (.inr rfl) e np (ra.cut lo hi) fun G' H' v gx' r' => q G' H' v gx' (r' H0)⟩
    · cases h) fun h => h)⟩
/-- a part of the script -/
theorem d_sliceS (ha : DX X .scr e f) (hl : DO X lo gl) (hu : DO X hi gh) : DX X .new (.Subscript e (.Slice lo hi none p2) pos) (eSl oSlL f gl gh) :=
  ⟨(pe_slice sl_list ha.pe hl.po hu.po).imp (sl_three (mo := .scr) (fun G0 H0 G1 H1 G H d1 d lo hi x Q e gx r1 h q => by
    obtain ⟨a, ns, rfl, rfl, hq⟩ := r1
    cases h
    exact ⟨a, _, rfl, hq, fun p np => newList (.inr rfl) e np ((RepA.ints ns).cut lo hi) fun G' H' v gx' r' => q G' H' v gx' (r' H0)⟩) fun h => h)⟩
def oRev : PyData → Option PyData
  | .list ds => some (.list ds.reverse)
  | _ => none
theorem d_rev {k : Nat} {p1 p3 p4 : Pos} (ha : DX X .bor e f) : DX X .new (.Subscript e (.Slice none none (some (.UnaryOp .USub (.Constant (.int 1) k p1) p3)) p4) pos) (eUn oRev f) :=
  ⟨(pe_revL ha.pe).imp fun σ H Q ⟨G0, H0, G, ρ, d, s, ed, q⟩ => by
    obtain ⟨d1, e1, ed⟩ := bind_some ed
    unfold oRev at ed
    split at ed
    · cases ed
      refine ⟨G0, H0, G, ρ, _, s, e1, fun G1 H1 x gx1 r1 => ?_⟩
      obtain ⟨a, vs, rfl, h1, ra⟩ := RepB.rd gx1.gh r1
      exact ⟨a, vs, rfl, .inl h1, fun p np => newList (.inr rfl) gx1.gh np ra.reverse fun G' H' v gx' r' => q G' H' v (gx1.trans gx') ((r' H0).start gx1.h)⟩
    · cases ed⟩
end

/-! ### calls of built-ins -/
inductive RepBA (K : PySem.W.Frag) (G H : Hp) : List PyData → List V → Prop
  | nil : RepBA K G H [] []
  | cons {d : PyData} {ds : List PyData} {v : V} {vs : List V} : RepB K G H d v → RepBA K G H ds vs → RepBA K G H (d :: ds) (v :: vs)
theorem RMs.bors {K : PySem.W.Frag} {H0 Hs G H : Hp} : ∀ {ms : List Md} {ds : List PyData} {vs : List V}, (∀ m ∈ ms, m = .bor) → RMs K H0 Hs G H ms ds vs → RepBA K G H ds vs
  | _, _, _, _, .nil => .nil
  | m :: _, _, _, q, .cons h t => by
    have e : m = .bor := q m List.mem_cons_self
    subst e
    exact .cons h (RMs.bors (fun m hm => q m (List.mem_cons_of_mem _ hm)) t)
theorem RepBA.one {K : PySem.W.Frag} {G H : Hp} {d : PyData} {vs : List V} (h : RepBA K G H [d] vs) : ∃ v, vs = [v] ∧ RepB K G H d v := by
  cases h with
  | cons h t => cases t; exact ⟨_, rfl, h⟩
theorem RepBA.two {K : PySem.W.Frag} {G H : Hp} {d d' : PyData} {vs : List V} (h : RepBA K G H [d, d'] vs) : ∃ v v', vs = [v, v'] ∧ RepB K G H d v ∧ RepB K G H d' v' := by
  cases h with
  | cons h t =>
    obtain ⟨w, rfl, h2⟩ := t.one
    exact ⟨_, _, rfl, h, h2⟩
def CallF (K : PySem.W.Frag) (m : Md) (r : List V → Hp → VK → Prop) (F : List PyData → Option PyData) : Prop :=
  ∀ (G H : Hp) (ds : List PyData) (d : PyData) (vs : List V) (Q : VK), Ex G H → RepBA K G H ds vs → F ds = some d → (∀ G' H' v, Gx G H G' H' → (∀ H0, RM K H0 H m G' H' d v) → Q v H') → r vs H Q
section
variable {K : PySem.W.Frag} {X : Cx} {e : Expr} {es : List Expr} {m : Md} {ms : List Md} {pos p : Pos} {r : List V → Hp → VK → Prop} {ra : SA} {F : List PyData → Option PyData} {x : Str} {id T : String}
theorem callB_of {K : PySem.W.Frag} (hF : CallF K m r F) (hms : ∀ m ∈ ms, m = .bor) : ∀ σ H Q, tE K m (eCall F ra) σ H Q → tCB r (tA K ms ra) σ H Q := fun σ H Q ⟨G0, H0, G, ρ, d, s, ed, q⟩ => by
  obtain ⟨ds, e1, e2⟩ := bind_some ed
  refine ⟨G0, H0, G, ρ, ds, s, e1, fun G' H' vs gx rr => ?_⟩
  exact hF G' H' ds d vs Q gx.gh (rr.bors hms) e2 fun G2 H2 v gx2 r2 => q G2 H2 v (gx.trans gx2) ((r2 H0).start gx.h)
theorem d_callB (hc : CallR X (.builtin id) r) (hF : CallF X.K m r F) (hms : ∀ m ∈ ms, m = .bor) (hg : Gl X x) (hm : X.mg x = none) (hv : bootBuiltins x = some (.builtin id)) (ha : DA X ms (e :: es) ra) (hn : x ≠ "__name__" := by decide) (hdb : (x == ("__debug__" : Str)) = false := by decide)
    (he : starEach (e :: es) X.env = (false, eval e X.env) :: starEach es X.env := by rfl) (hpl : (backTo pos (starEach es X.env)).any (·.1) = false := by rfl) : DX X m (.Call (.Name x p) (e :: es) [] pos) (eCall F ra) :=
  ⟨(pe_callB hc hg hm hv ha.pa hn hdb he hpl).imp (callB_of hF hms)⟩
theorem d_callTy (hc : CallR X (.type T) r) (hF : CallF X.K m r F) (hms : ∀ m ∈ ms, m = .bor) (hg : Gl X x) (hm : X.mg x = none) (hv : bootBuiltins x = some (.type T)) (ha : DA X ms (e :: es) ra) (hn : x ≠ "__name__" := by decide) (hdb : (x == ("__debug__" : Str)) = false := by decide)
    (he : starEach (e :: es) X.env = (false, eval e X.env) :: starEach es X.env := by rfl) (hpl : (backTo pos (starEach es X.env)).any (·.1) = false := by rfl) : DX X m (.Call (.Name x p) (e :: es) [] pos) (eCall F ra) :=
  ⟨(pe_callTy hc hg hm hv ha.pa hn hdb he hpl).imp (callB_of hF hms)⟩
end
end DV

namespace DV
open PySem L2

/-! ### the built-ins -/
section
variable {K : PySem.W.Frag} {X : Cx}
theorem RepBA.none1 {G H : Hp} {ds : List PyData} {vs : List V} (h : RepBA K G H ds vs) : ds.length = vs.length := by
  induction h with
  | nil => rfl
  | cons _ _ ih => exact congrArg (· + 1) ih
def cLen : List PyData → Option PyData
  | [.list l] => some (.int (l.length : Nat))
  | [.tuple l] => some (.int (l.length : Nat))
  | [.str z] => if z.length ≤ sizeLine then some (.int (z.length : Nat)) else none
  | _ => none
theorem cf_len : CallF K .val (fun xs H Q => ∃ x n, xs = [x] ∧ LenV K x H n ∧ Q (.int n) H) cLen := fun G H ds d vs Q e r h q => by
  unfold cLen at h
  split at h
  · cases h
    obtain ⟨v, rfl, r1⟩ := r.one
    obtain ⟨a, us, rfl, h1, ra⟩ := r1.rd e
    exact ⟨_, _, rfl, .inl ⟨us, .inl h1, ra.len⟩, q G H _ (Gx.refl e) fun _ => .int _⟩
  · cases h
    obtain ⟨v, rfl, r1⟩ := r.one
    obtain ⟨a, us, rfl, h1, ra⟩ := r1.seqT
    exact ⟨_, _, rfl, .inr ⟨us, h1 H e, ra.len⟩, q G H _ (Gx.refl e) fun _ => .int _⟩
  · obtain ⟨hz, rfl⟩ := if_some h
    obtain ⟨v, rfl, r1⟩ := r.one
    cases r1.str
    exact ⟨_, _, rfl, ⟨hz, rfl⟩, q G H _ (Gx.refl e) fun _ => .int _⟩
  · cases h
/-- int(n) -/
def cInt : List PyData → Option PyData
  | [.int i] => some (.int i)
  | [.bool k] => some (.int (if k then 1 else 0))
  | _ => none
theorem cf_int : CallF K .val (fun xs H Q => (∃ i, xs = [.int i] ∧ Q (.int i) H) ∨ ∃ k, xs = [.bl k] ∧ Q (.int (if k then 1 else 0)) H) cInt := fun G H ds d vs Q e r h q => by
  unfold cInt at h
  split at h
  · cases h
    obtain ⟨v, rfl, r1⟩ := r.one
    cases r1.int
    exact .inl ⟨_, rfl, q G H _ (Gx.refl e) fun _ => .int _⟩
  · cases h
    obtain ⟨v, rfl, r1⟩ := r.one
    cases r1.bl
    exact .inr ⟨_, rfl, q G H _ (Gx.refl e) fun _ => .int _⟩
  · cases h
def cAbs : List PyData → Option PyData
  | [.int i] => some (.int (if i < 0 then -i else i))
  | _ => none
theorem cf_abs : CallF K .val (fun xs H Q => ∃ i, xs = [.int i] ∧ Q (.int (if i < 0 then -i else i)) H) cAbs := fun G H ds d vs Q e r h q => by
  unfold cAbs at h
  split at h
  · cases h
    obtain ⟨v, rfl, r1⟩ := r.one
    cases r1.int
    exact ⟨_, rfl, q G H _ (Gx.refl e) fun _ => .int _⟩
  · cases h
def cMax2 : List PyData → Option PyData
  | [.int i, .int j] => some (.int (if j > i then j else i))
  | _ => none
def cMin2 : List PyData → Option PyData
  | [.int i, .int j] => some (.int (if j < i then j else i))
  | _ => none
theorem cf_max2 : CallF K .val (fun xs H Q => ∃ i j, xs = [.int i, .int j] ∧ Q (.int (if j > i then j else i)) H) cMax2 := fun G H ds d vs Q e r h q => by
  unfold cMax2 at h
  split at h
  · cases h
    obtain ⟨v, w, rfl, r1, r2⟩ := r.two
    cases r1.int
    cases r2.int
    exact ⟨_, _, rfl, q G H _ (Gx.refl e) fun _ => .int _⟩
  · cases h
theorem cf_min2 : CallF K .val (fun xs H Q => ∃ i j, xs = [.int i, .int j] ∧ Q (.int (if j < i then j else i)) H) cMin2 := fun G H ds d vs Q e r h q => by
  unfold cMin2 at h
  split at h
  · cases h
    obtain ⟨v, w, rfl, r1, r2⟩ := r.two
    cases r1.int
    cases r2.int
    exact ⟨_, _, rfl, q G H _ (Gx.refl e) fun _ => .int _⟩
  · cases h
/-- all ints -/
def intsOf : List PyData → Option (List Int)
  | [] => some []
  | .int i :: r => (intsOf r).map (i :: ·)
  | _ => none
theorem intsOf_some : ∀ {ds : List PyData} {ns : List Int}, intsOf ds = some ns → ds = ns.map .int
  | [], ns, h => by cases h; rfl
  | .int i :: r, ns, h => by
    unfold intsOf at h
    cases e : intsOf r with
    | none => rw [e] at h; cases h
    | some ms => rw [e] at h; cases h; rw [intsOf_some e]; rfl
theorem intsOf_map (ns : List Int) : intsOf (ns.map .int) = some ns := by
  induction ns with
  | nil => rfl
  | cons n r ih => show (intsOf (r.map .int)).map (n :: ·) = _; rw [ih]; rfl
def cSum : List PyData → Option PyData
  | [.list l] => (intsOf l).map fun ns => .int ns.sum
  | _ => none
theorem map_some {α β : Type} {o : Option α} {k : α → β} {b : β} (h : o.map k = some b) : ∃ a, o = some a ∧ k a = b := by
  cases o with
  | none => cases h
  | some a => exact ⟨a, rfl, Option.some.inj h⟩
theorem RepB.ints {G H : Hp} (e : Ex G H) {ns : List Int} {v : V} (r : RepB K G H (.list (ns.map .int)) v) : ∃ a, v = .ref a ∧ Rd H a (.lst (ns.map V.int)) := by
  obtain ⟨a, us, rfl, h1, ra⟩ := r.rd e
  cases ra.ofInts
  exact ⟨a, rfl, h1⟩
theorem cf_sum : CallF K .val (rSum K) cSum := fun G H ds d vs Q e r h q => by
  unfold cSum at h
  split at h
  · obtain ⟨ns, h1, rfl⟩ := map_some h
    obtain ⟨v, rfl, r1⟩ := r.one
    cases intsOf_some h1
    obtain ⟨a, rfl, h2⟩ := r1.ints e
    exact ⟨a, ns, rfl, .inl h2, q G H _ (Gx.refl e) fun _ => .int _⟩
  · cases h
def maxL : Int → List Int → Int
  | m, [] => m
  | m, x :: r => maxL (max m x) r
def minL : Int → List Int → Int
  | m, [] => m
  | m, x :: r => minL (min m x) r
theorem maxL_ge : ∀ (r : List Int) (m : Int), m ≤ maxL m r ∧ ∀ y ∈ r, y ≤ maxL m r
  | [], m => ⟨Int.le_refl _, fun y h => by cases h⟩
  | x :: r, m => by
    obtain ⟨h1, h2⟩ := maxL_ge r (max m x)
    refine ⟨by show m ≤ maxL (max m x) r; omega, fun y hy => ?_⟩
    show y ≤ maxL (max m x) r
    rcases List.mem_cons.mp hy with rfl | hy
    · omega
    · exact h2 y hy
theorem maxL_mem : ∀ (r : List Int) (m : Int), maxL m r = m ∨ maxL m r ∈ r
  | [], m => .inl rfl
  | x :: r, m => by
    show maxL (max m x) r = m ∨ maxL (max m x) r ∈ x :: r
    rcases maxL_mem r (max m x) with h | h
    · by_cases c : m ≤ x
      · right; rw [h, show max m x = x by omega]; exact List.mem_cons_self
      · left; rw [h]; omega
    · exact .inr (List.mem_cons_of_mem _ h)
theorem minL_le : ∀ (r : List Int) (m : Int), minL m r ≤ m ∧ ∀ y ∈ r, minL m r ≤ y
  | [], m => ⟨Int.le_refl _, fun y h => by cases h⟩
  | x :: r, m => by
    obtain ⟨h1, h2⟩ := minL_le r (min m x)
    refine ⟨by show minL (min m x) r ≤ m; omega, fun y hy => ?_⟩
    show minL (min m x) r ≤ y
    rcases List.mem_cons.mp hy with rfl | hy
    · omega
    · exact h2 y hy
theorem minL_mem : ∀ (r : List Int) (m : Int), minL m r = m ∨ minL m r ∈ r
  | [], m => .inl rfl
  | x :: r, m => by
    show minL (min m x) r = m ∨ minL (min m x) r ∈ x :: r
    rcases minL_mem r (min m x) with h | h
    · by_cases c : x ≤ m
      · right; rw [h, show min m x = x by omega]; exact List.mem_cons_self
      · left; rw [h]; omega
    · exact .inr (List.mem_cons_of_mem _ h)
def cMaxL : List PyData → Option PyData
  | [.list l] => (intsOf l).bind fun ns => match ns with
    | n :: r => some (.int (maxL n r))
    | [] => none
  | _ => none
def cMinL : List PyData → Option PyData
  | [.list l] => (intsOf l).bind fun ns => match ns with
    | n :: r => some (.int (minL n r))
    | [] => none
  | _ => none
theorem maxL_eq {n m : Int} {r : List Int} (hm : m ∈ n :: r) (hall : ∀ y, y ∈ n :: r → y ≤ m) : m = maxL n r := by
  have z1 : m ≤ maxL n r := by
    rcases List.mem_cons.mp hm with rfl | hm
    · exact (maxL_ge r _).1
    · exact (maxL_ge r n).2 m hm
  have z2 : maxL n r ≤ m := by
    rcases maxL_mem r n with z | z
    · rw [z]; exact hall n List.mem_cons_self
    · exact hall _ (List.mem_cons_of_mem _ z)
  omega
theorem cf_maxL : CallF K .val (rMax K) cMaxL := fun G H ds d vs Q e r h q => by
  unfold cMaxL at h
  split at h
  · obtain ⟨ns, h1, h2⟩ := bind_some h
    cases ns with
    | nil => cases h2
    | cons n t =>
      cases h2
      obtain ⟨v, rfl, r1⟩ := r.one
      cases intsOf_some h1
      obtain ⟨a, rfl, h2⟩ := r1.ints e
      refine ⟨a, _, rfl, .inl h2, Nat.succ_pos _, fun m hm hall => ?_⟩
      rw [maxL_eq hm hall]
      exact q G H _ (Gx.refl e) fun _ => .int _
  · cases h
theorem minL_eq {n m : Int} {r : List Int} (hm : m ∈ n :: r) (hall : ∀ y, y ∈ n :: r → m ≤ y) : m = minL n r := by
  have z1 : minL n r ≤ m := by
    rcases List.mem_cons.mp hm with rfl | hm
    · exact (minL_le r _).1
    · exact (minL_le r n).2 m hm
  have z2 : m ≤ minL n r := by
    rcases minL_mem r n with z | z
    · rw [z]; exact hall n List.mem_cons_self
    · exact hall _ (List.mem_cons_of_mem _ z)
  omega
theorem cf_minL : CallF K .val (rMin K) cMinL := fun G H ds d vs Q e r h q => by
  unfold cMinL at h
  split at h
  · obtain ⟨ns, h1, h2⟩ := bind_some h
    cases ns with
    | nil => cases h2
    | cons n t =>
      cases h2
      obtain ⟨v, rfl, r1⟩ := r.one
      cases intsOf_some h1
      obtain ⟨a, rfl, h2⟩ := r1.ints e
      refine ⟨a, _, rfl, .inl h2, Nat.succ_pos _, fun m hm hall => ?_⟩
      rw [minL_eq hm hall]
      exact q G H _ (Gx.refl e) fun _ => .int _
  · cases h
def boolsOf : List PyData → Option (List Bool)
  | [] => some []
  | .bool i :: r => (boolsOf r).map (i :: ·)
  | _ => none
theorem boolsOf_some : ∀ {ds : List PyData} {ns : List Bool}, boolsOf ds = some ns → ds = ns.map .bool
  | [], ns, h => by cases h; rfl
  | .bool i :: r, ns, h => by
    unfold boolsOf at h
    cases e : boolsOf r with
    | none => rw [e] at h; cases h
    | some ms => rw [e] at h; cases h; rw [boolsOf_some e]; rfl
theorem boolsOf_map (ns : List Bool) : boolsOf (ns.map .bool) = some ns := by
  induction ns with
  | nil => rfl
  | cons n r ih => show (boolsOf (r.map .bool)).map (n :: ·) = _; rw [ih]; rfl
theorem RepA.ofBools {G : Hp} : ∀ {ns : List Bool} {vs : List V}, RepA K G (ns.map .bool) vs → vs = ns.map V.bl
  | [], _, .nil => rfl
  | n :: r, _, .cons h t => by
    cases h
    rw [RepA.ofBools t]; rfl
def cAny : List PyData → Option PyData
  | [.list l] => (boolsOf l).map fun ns => .bool (ns.any id)
  | _ => none
theorem cf_any : CallF K .val (rAny K) cAny := fun G H ds d vs Q e r h q => by
  unfold cAny at h
  split at h
  · obtain ⟨ns, h1, rfl⟩ := map_some h
    obtain ⟨v, rfl, r1⟩ := r.one
    cases boolsOf_some h1
    obtain ⟨a, us, rfl, h2, ra⟩ := r1.rd e
    cases ra.ofBools
    exact ⟨a, ns, rfl, .inl h2, q G H _ (Gx.refl e) fun _ => .bl _⟩
  · cases h
/-- list(a list, a tuple) -/
def cList : List PyData → Option PyData
  | [.list l] => some (.list l)
  | [.tuple l] => some (.list l)
  | _ => none
theorem cf_list : CallF K .new (fun xs H Q => ∃ p ys, xs = [.ref p] ∧ (SqL K H p ys ∨ SqT K H p ys) ∧ ∀ l, H l = none → Q (.ref l) (upd H l (.lst ys))) cList := fun G H ds d vs Q e r h q => by
  unfold cList at h
  split at h
  · cases h
    obtain ⟨v, rfl, r1⟩ := r.one
    obtain ⟨a, us, rfl, h2, ra⟩ := r1.rd e
    exact ⟨a, us, rfl, .inl (.inl h2), fun p np => newList (.inr rfl) e np ra q⟩
  · cases h
    obtain ⟨v, rfl, r1⟩ := r.one
    obtain ⟨a, us, rfl, h2, ra⟩ := r1.seqT
    exact ⟨a, us, rfl, .inr (h2 H e), fun p np => newList (.inr rfl) e np ra q⟩
  · cases h
end

/-! ### isinstance of a built-in class -/
def tyName : PyData → String
  | .none => "NoneType"
  | .bool _ => "bool"
  | .int _ => "int"
  | .str _ => "str"
  | .list _ => "list"
  | .tuple _ => "tuple"
  | .dict _ => "dict"
def isT (T : String) : PyData → Option Bool
  | .bool _ => some (T == "bool" || T == "int")
  | .dict _ => none
  | d => some (tyName d == T)
def eIs (T : String) (f : SE) : SE := fun ρ => (f ρ).bind fun d => (isT T d).map .bool
theorem rep_ty {K : PySem.W.Frag} {G H : Hp} (e : Ex G H) {d : PyData} {v : V} (nd : ∀ es, d ≠ .dict es) (r : RepB K G H d v) : TyX K H v (.type (tyName d)) := by
  cases r with
  | lst h _ => exact .base (.lst h)
  | dK h _ _ => exact .base (.dK h)
  | dT h _ _ => exact .base (.dT h)
  | val r =>
    cases r with
    | non => exact .base .non
    | bl b => exact .base (.bl b)
    | int i => exact .base (.int i)
    | str x => exact .base (.str x)
    | lst h _ =>
      rcases e.rd h with h | ⟨o, h⟩
      · exact .base (.lst h)
      · exact .base (.frz h)
    | tup h _ =>
      rcases e.sqt (K := K) (sqtOf h) with (h | ⟨o, h⟩) | ⟨o, its, n, k, c, _⟩
      · exact .base (.tup h)
      · exact .fTuple h
      · exact .kTuple k c
    | dK h _ _ => exact absurd rfl (nd _)
    | dT h _ _ => exact absurd rfl (nd _)
/-- the built-in class T, for which the model's own answers are what isT says -/
def TyOkT (T : String) : Prop := ∀ n ∈ ["NoneType", "int", "str", "list", "tuple"], kitB n T = some (n == T)
theorem d_isi {X : Cx} {T : String} {a : Expr} {f : SE} {y : Str} {p p1 pos : Pos} (hg : Gl X "isinstance") (hm : X.mg "isinstance" = none) (ha : DX X .bor a f)
    (hgT : Gl X y) (hmT : X.mg y = none) (hvT : bootBuiltins y = some (.type T)) (ok : TyOkT T) (okB : kitB "bool" T = some (T == "bool" || T == "int"))
    (hnT : y ≠ "__name__" := by decide) (hdT : (y == ("__debug__" : Str)) = false := by decide)
    (he : starEach [a, .Name y p1] X.env = (false, eval a X.env) :: starEach [.Name y p1] X.env := by rfl) (hpl : (backTo pos (starEach [.Name y p1] X.env)).any (·.1) = false := by rfl) (h2 : starEach [.Name y p1] X.env = (false, eval (.Name y p1) X.env) :: starEach [] X.env := by rfl) :
    DX X .val (.Call (.Name "isinstance" p) [a, .Name y p1] [] pos) (eIs T f) :=
  ⟨(pe_callB call_isi hg hm PyProof.Rows.boot_isinstance (pa_cons ha.pe (pa_cons (pe_bltn (v := .ty T) hgT hmT hvT rfl hnT hdT) pa_nil h2) he) (by decide) (by decide) he hpl).imp fun σ H Q ⟨G0, H0, G, ρ, d, s, ed, q⟩ => by
    obtain ⟨d1, e1, ed⟩ := bind_some ed
    obtain ⟨k, e2, rfl⟩ := map_some ed
    refine ⟨G0, H0, G, ρ, d1, s, e1, fun G1 H1 v gx r => ?_⟩
    have nd : ∀ es, d1 ≠ .dict es := fun es z => by subst z; cases e2
    have kk : kitB (tyName d1) T = some k := by
      cases d1 with
      | bool b => rw [show tyName (.bool b) = "bool" from rfl, okB]; exact e2
      | dict es => exact absurd rfl (nd es)
      | none => rw [ok _ (by decide)]; exact e2
      | int i => rw [show tyName (.int i) = "int" from rfl, ok _ (by decide)]; exact e2
      | str i => rw [show tyName (.str i) = "str" from rfl, ok _ (by decide)]; exact e2
      | list i => rw [show tyName (.list i) = "list" from rfl, ok _ (by decide)]; exact e2
      | tuple i => rw [show tyName (.tuple i) = "tuple" from rfl, ok _ (by decide)]; exact e2
    exact ⟨v, .ty T, .type (tyName d1), .type T, k, rfl, .ty T, rep_ty gx.gh nd r, kit_ty kk, q G1 H1 _ gx (.bl _)⟩⟩
theorem okT_int : TyOkT "int" := by unfold TyOkT; decide +kernel
theorem okT_bool : TyOkT "bool" := by unfold TyOkT; decide +kernel
theorem okT_tuple : TyOkT "tuple" := by unfold TyOkT; decide +kernel
theorem okT_list : TyOkT "list" := by unfold TyOkT; decide +kernel
theorem okT_str : TyOkT "str" := by unfold TyOkT; decide +kernel

/-! ### own lists change -/
section
variable {X : Cx} {rm : Md} {a b e : Expr} {f g : SE} {r : SA} {pos p2 p1 cpos apos : Pos} {x : Str}
/-- what an own slot holds becomes F of it and a value -/
def sMut (F : List PyData → List PyData → Option PyData) (i : Nat) (r : SA) : SS := fun ρ => match ρ[i]? with
  | some (.own (.list l)) => (r ρ).bind fun ds => (F l ds).bind fun d => some (.nx (ρ.set i (.own d)))
  | _ => none
theorem own_list {K : PySem.W.Frag} {G H : Hp} {a : Addr} {l : List PyData} (h : Own K G H a (.list l)) : ∃ vs, H a = some (.lst vs) ∧ RepA K G l vs := by
  cases h with
  | lst h r => exact ⟨_, h, r⟩
/-- a method of an own list that is dropped as a statement -/
theorem mut_of {K : PySem.W.Frag} {i : Nat} {ms : List Md} {rr : V → List V → Hp → VK → Prop} {F : List PyData → List PyData → Option PyData}
    (hF : ∀ (G H : Hp) (l ds : List PyData) (d : PyData) (vs us : List V) (p : Addr) (Q : VK), Ex G H → H p = some (.lst vs) → RepA K G l vs → RepA K G ds us → F l ds = some d → (∀ o v, Own K G (upd H p o) p d → Q v (upd H p o)) → rr (.ref p) us H Q)
    (hms : ∀ m ∈ ms, m = .val) : ∀ D σ H, tS K rm (sMut F i r) D σ H → tDrop (tBM K "list" rr (tVar i) (tA K ms r)) D σ H := fun D σ H ⟨G0, H0, G, ρ, o, s, e, q⟩ => by
  unfold sMut at e
  split at e
  · rename_i l h
    obtain ⟨ds, e1, e⟩ := bind_some e
    obtain ⟨d, e2, e⟩ := bind_some e
    cases e
    obtain ⟨p, h1, h2, h3, h4⟩ := s.own h
    obtain ⟨vs, hv, _⟩ := own_list h4
    refine ⟨_, h1, .inl ⟨rfl, _, SqL.of hv⟩, G0, H0, G, ρ, ds, s, e1, fun G1 H1 us gx ra => ?_⟩
    have s1 := s.gx' gx
    obtain ⟨p', k1, k2, k3, k4⟩ := s1.own h
    rw [h1] at k1; cases k1
    obtain ⟨vs', hv', rl⟩ := own_list k4
    exact hF G1 H1 l ds d vs' us p _ gx.gh hv' rl (ra.vals hms) e2 fun o v ow => q G1 σ _ gx.g (s1.write h h1 k2 k3 ow)
  · cases e
def fApp : List PyData → List PyData → Option PyData := fun l ds => match ds with
  | [d] => if l.length < sizeLine then some (.list (l ++ [d])) else none
  | _ => none
theorem s_app (i : Nat) (ha : DX X .val a f) (hN : X.N[i]? = some x := by rfl) (hv : Vis X.env.scope x := by first | exact Or.inl rfl | exact Or.inr (Or.inl rfl) | exact Or.inr (Or.inr rfl)) (hd : (x == ("__debug__" : Str)) = false := by decide)
    (hcd : (x == ("__classdict__" : Str)) = false := by decide)
    (hbase : attributeBase (.Name x p1) "append" X.env (eval (.Name x p1) X.env) = eval (.Name x p1) X.env := by rfl)
    (hfew : ((backTo cpos (starEach (a :: []) X.env)).all (fun x => !x.1) && (backToKw cpos (keywordEach [] X.env)).all (fun x => x.1.isSome)
      && decide ((a :: []).length + ([] : List Keyword).length + (if ([] : List Keyword).isEmpty then 0 else 1) < 30)) = true := by rfl)
    (hline : (apos.endLine == cpos.line) = true := by rfl) (hs : starEach (a :: []) X.env = (false, eval a X.env) :: starEach [] X.env := by rfl) (hplain : (backTo cpos (starEach [] X.env)).any (·.1) = false := by rfl)
    (hsw : swapsWith (.Call (.Attribute (.Name x p1) "append" apos) [a] [] cpos) none pos.line X.env = pure false := by rfl) :
    DS X rm (.Expr (.Call (.Attribute (.Name x p1) "append" apos) [a] [] cpos) pos) (sMut fApp i (aCons f aNil)) :=
  ⟨(ps_expr (pe_bm PySem.F.plainAttrs_list PySem.F.slot_list_append PySem.F.type_list_append mt_append (pv i hN hv hd hcd) (a_cons ha a_nil hs).pa hbase hfew hline hs hplain) hsw).imp
    (mut_of (fun G H l ds d vs us p Q e hv rl ra h q => by
      unfold fApp at h
      split at h
      · obtain ⟨hl, rfl⟩ := if_some h
        cases ra with
        | cons r1 t =>
          cases t
          exact ⟨p, vs, _, rfl, rfl, hv, by rw [← rl.len]; exact hl, q _ _ (.lst upd_same (rl.app (.cons r1 .nil)))⟩
      · cases h) (fun m hm => List.mem_singleton.mp hm))⟩
def fExt : List PyData → List PyData → Option PyData := fun l ds => match ds with
  | [.list k] => if l.length + k.length ≤ sizeLine then some (.list (l ++ k)) else none
  | _ => none
def rExtR : V → List V → Hp → VK → Prop := fun x vs H Q => ∃ l b xs zs, x = .ref l ∧ vs = [.ref b] ∧ H l = some (.lst xs) ∧ Rd H b (.lst zs) ∧ xs.length + zs.length ≤ sizeLine ∧ Q .non (upd H l (.lst (xs ++ zs)))
def fIns : List PyData → List PyData → Option PyData := fun l ds => match ds with
  | [.int i, d] => if l.length < sizeLine ∧ 0 ≤ i ∧ i < 2 ^ 63 then some (.list (l.take i.toNat ++ [d] ++ l.drop i.toNat)) else none
  | _ => none
theorem s_ins (i : Nat) (ha : DX X .val a f) (hb : DX X .val b g) (hN : X.N[i]? = some x := by rfl) (hv : Vis X.env.scope x := by first | exact Or.inl rfl | exact Or.inr (Or.inl rfl) | exact Or.inr (Or.inr rfl)) (hd : (x == ("__debug__" : Str)) = false := by decide)
    (hcd : (x == ("__classdict__" : Str)) = false := by decide)
    (hbase : attributeBase (.Name x p1) "insert" X.env (eval (.Name x p1) X.env) = eval (.Name x p1) X.env := by rfl)
    (hfew : ((backTo cpos (starEach [a, b] X.env)).all (fun x => !x.1) && (backToKw cpos (keywordEach [] X.env)).all (fun x => x.1.isSome)
      && decide ([a, b].length + ([] : List Keyword).length + (if ([] : List Keyword).isEmpty then 0 else 1) < 30)) = true := by rfl)
    (hline : (apos.endLine == cpos.line) = true := by rfl) (hs : starEach [a, b] X.env = (false, eval a X.env) :: starEach [b] X.env := by rfl) (hs2 : starEach [b] X.env = (false, eval b X.env) :: starEach [] X.env := by rfl) (hplain : (backTo cpos (starEach [b] X.env)).any (·.1) = false := by rfl)
    (hsw : swapsWith (.Call (.Attribute (.Name x p1) "insert" apos) [a, b] [] cpos) none pos.line X.env = pure false := by rfl) :
    DS X rm (.Expr (.Call (.Attribute (.Name x p1) "insert" apos) [a, b] [] cpos) pos) (sMut fIns i (aCons f (aCons g aNil))) :=
  ⟨(ps_expr (pe_bm PySem.F.plainAttrs_list PySem.F.slot_list_insert PySem.F.type_list_insert mt_insert (pv i hN hv hd hcd) (a_cons ha (a_cons hb a_nil hs2) hs).pa hbase hfew hline hs hplain) hsw).imp
    (mut_of (fun G H l ds d vs us p Q e hv rl ra h q => by
      unfold fIns at h
      split at h
      · obtain ⟨⟨hl, h0, h1⟩, rfl⟩ := if_some h
        cases ra with
        | cons r1 t =>
          cases t with
          | cons r2 t =>
            cases t
            cases r1
            exact ⟨p, vs, _, _, rfl, rfl, hv, by rw [← rl.len]; exact hl, h0, h1, q _ _ (.lst upd_same (((rl.take _).app (.cons r2 .nil)).app (rl.drop _)))⟩
      · cases h) (fun m hm => by simp at hm; exact hm))⟩
/-- x[i] = v of an own list -/
def fSet : List PyData → List PyData → Option PyData := fun l ds => match ds with
  | [.int k, d] => (ixN l.length k).map fun j => .list (l.set j d)
  | _ => none
/-- the value first, then the index -/
def sPut (i : Nat) (fv fi : SE) : SS := fun ρ => (fv ρ).bind fun d => match ρ[i]? with
  | some (.own (.list l)) => (fi ρ).bind fun k => (fSet l [k, d]).bind fun d' => some (.nx (ρ.set i (.own d')))
  | _ => none
theorem s_put (i : Nat) {tpos : Pos} (he : DX X .val e g) (hi : DX X .val b f) (hN : X.N[i]? = some x := by rfl) (hv : Vis X.env.scope x := by first | exact Or.inl rfl | exact Or.inr (Or.inl rfl) | exact Or.inr (Or.inr rfl)) (hd : (x == ("__debug__" : Str)) = false := by decide)
    (hcd : (x == ("__classdict__" : Str)) = false := by decide)
    (ha : ∀ v, assign (.Subscript (.Name x p1) b tpos) X.env v = (do
      let ov ← holding [v] (eval (.Name x p1) X.env)
      let iv ← holding [v, ov] (eval b X.env)
      standAt tpos
      holding [v, ov, iv] (setItem ov iv v)
      release [v, ov, iv] []) := by intro _; rfl)
    (hs : swapsWithSole [.Subscript (.Name x p1) b tpos] e pos.line X.env = pure false := by rfl) (hw : swappedStores [.Subscript (.Name x p1) b tpos] e X.env = pure none := by rfl)
    (h1 : (assignEach [.Subscript (.Name x p1) b tpos] X.env).map (·.2) = [assign (.Subscript (.Name x p1) b tpos) X.env] := by rfl) : DS X rm (.Assign [.Subscript (.Name x p1) b tpos] e pos) (sPut i g f) :=
  ⟨(ps_asg he.pe (pg_sub (pv i hN hv hd hcd) hi.pe set_list ha) hs hw h1).imp fun D σ H ⟨G0, H0, G, ρ, o, s, e, q⟩ => by
    obtain ⟨d, e1, e⟩ := bind_some e
    split at e
    · rename_i l h
      obtain ⟨k, e2, e⟩ := bind_some e
      obtain ⟨d', e3, e⟩ := bind_some e
      cases e
      refine ⟨G0, H0, G, ρ, d, s, e1, fun G1 H1 v gx r1 => ?_⟩
      have s1 := s.gx' gx
      obtain ⟨p, h1, h2, h3, h4⟩ := s1.own h
      refine ⟨_, h1, G0, H0, G1, ρ, k, s1, e2, fun G2 H2 y gx2 r2 => ?_⟩
      have s2 := s1.gx' gx2
      obtain ⟨p', k1, k2, k3, k4⟩ := s2.own h
      rw [h1] at k1; cases k1
      obtain ⟨vs, hv', rl⟩ := own_list k4
      unfold fSet at e3
      split at e3
      · rename_i kk dd hk
        cases hk
        obtain ⟨j, hj, rfl⟩ := map_some e3
        cases (show Rep X.K G2 (.int kk) y from r2)
        refine ⟨p, vs, kk, j, rfl, rfl, hv', by rw [← rl.len]; exact hj, ?_⟩
        exact q G2 σ _ (gx.g.trans gx2.g) (s2.write h h1 k2 k3 (.lst upd_same (rl.set j (Rep.mono gx2.g r1))))
      · cases e3
    · cases e⟩
end
/-- the length of the script -/
theorem d_lenS {X : Cx} {a : Expr} {f : SE} {p pos : Pos} (ha : DX X .scr a f) (hm : X.mg "len" = none) (hg : Gl X "len" := by rfl) (he : starEach [a] X.env = (false, eval a X.env) :: starEach [] X.env := by rfl) (hpl : (backTo pos (starEach [] X.env)).any (·.1) = false := by rfl) :
    DX X .val (.Call (.Name "len" p) [a] [] pos) (eCall cLen (aCons f aNil)) :=
  ⟨(pe_callB call_len hg hm PySem.boot_len (pa_cons ha.pe pa_nil he) (by decide) (by decide) he hpl).imp fun σ H Q ⟨G0, H0, G, ρ, d, s, ed, q⟩ => by
    obtain ⟨ds, e1, e2⟩ := bind_some ed
    obtain ⟨d1, e3, e4⟩ := bind_some e1
    obtain ⟨_, e5, e6⟩ := bind_some e4
    cases e5
    cases e6
    refine ⟨G0, H0, G, ρ, d1, s, e3, fun G1 H1 v gx r => ?_⟩
    obtain ⟨b, ns, rfl, rfl, hq⟩ := r
    cases e2
    refine ⟨_, _, rfl, .inl ⟨_, hq, rfl⟩, ?_⟩
    rw [List.length_map, ← List.length_map (f := PyData.int)]
    exact q G1 H1 _ gx (.int _)⟩
theorem d_vp {X : Cx} {a : Expr} {f : SE} (h : DX X .val a f) : DX X .par a f := ⟨h.pe.imp fun σ H Q ⟨G0, H0, G, ρ, d, s, ed, q⟩ => ⟨G0, H0, G, ρ, d, s, ed, fun G' H' v x r => q G' H' v x (.val r)⟩⟩
end DV

namespace DV
open PySem L2
/-! ### how the functions on data reckon -/
section
variable {i j : Int} {ρ : Rho} {f g h : SE} {d : PyData} {r : SA} {k n : Nat}
def getS : Rho → Nat → Option Slot
  | [], _ => none
  | s :: _, 0 => some s
  | _ :: r, k + 1 => getS r k
theorem bind_congr1 {α β : Type} {x y : Option α} {f : α → Option β} (h : x = y) : x.bind f = y.bind f := by rw [h]
@[simp] theorem eK_r : eK d ρ = some d := rfl
theorem getS_eq : ∀ (ρ : Rho) (k : Nat), getS ρ k = ρ[k]?
  | [], _ => by simp [getS]
  | s :: _, 0 => rfl
  | s :: r, k + 1 => by
    show getS r k = _
    rw [getS_eq r k]; rfl
@[simp] theorem getS_0 {s : Slot} : getS (s :: ρ) 0 = some s := rfl
@[simp] theorem getS_s {s : Slot} : getS (s :: ρ) (k + 1) = getS ρ k := rfl
@[simp] theorem eV_0 : eV 0 (.val d :: ρ) = some d := rfl
@[simp] theorem eV_s {s : Slot} : eV (k + 1) (s :: ρ) = eV k ρ := rfl
@[simp] theorem eB_0v : eB 0 (.val d :: ρ) = some d := rfl
@[simp] theorem eB_0b : eB 0 (.bor d :: ρ) = some d := rfl
@[simp] theorem eB_0p : eB 0 (.pin d :: ρ) = some d := rfl
@[simp] theorem eB_0o : eB 0 (.own d :: ρ) = some d := rfl
@[simp] theorem eB_s {s : Slot} : eB (k + 1) (s :: ρ) = eB k ρ := rfl
@[simp] theorem eP_0v : eP 0 (.val d :: ρ) = some d := rfl
@[simp] theorem eP_0b : eP 0 (.bor d :: ρ) = some d := rfl
@[simp] theorem eP_s {s : Slot} : eP (k + 1) (s :: ρ) = eP k ρ := rfl
@[simp] theorem eS_0 : eS 0 (.scr d :: ρ) = some d := rfl
@[simp] theorem eS_s {s : Slot} : eS (k + 1) (s :: ρ) = eS k ρ := rfl
@[simp] theorem aNil_r : aNil ρ = some [] := rfl
@[simp] theorem aCons_r : aCons f r ρ = (f ρ).bind fun d => (r ρ).bind fun ds => some (d :: ds) := rfl
@[simp] theorem eOp_r {F : PyData → PyData → Option PyData} : eOp F f g ρ = (f ρ).bind fun x => (g ρ).bind fun y => F x y := rfl
@[simp] theorem eUn_r {F : PyData → Option PyData} : eUn F f ρ = (f ρ).bind F := rfl
@[simp] theorem eCall_r {F : List PyData → Option PyData} : eCall F r ρ = (r ρ).bind F := rfl
@[simp] theorem eTup_r : eTup r ρ = (r ρ).bind fun ds => if ds.length ≤ sizeLine then some (.tuple ds) else none := rfl
@[simp] theorem eLst_r : eLst r ρ = (r ρ).bind fun ds => if ds.length ≤ sizeLine then some (.list ds) else none := rfl
@[simp] theorem eIf_r {t : SB} : eIf t f g ρ = (t ρ).bind fun k => if k = true then f ρ else g ρ := rfl
@[simp] theorem eAnd_r : eAnd f g ρ = (f ρ).bind fun x => (truth x).bind fun k => if k = true then g ρ else some x := rfl
@[simp] theorem eOr_r : eOr f g ρ = (f ρ).bind fun x => (truth x).bind fun k => if k = true then some x else g ρ := rfl
@[simp] theorem eNot_r : eNot f ρ = (f ρ).bind fun x => (truth x).map fun k => .bool !k := rfl
@[simp] theorem eIs_r {T : String} : eIs T f ρ = (f ρ).bind fun d => (isT T d).map .bool := rfl
@[simp] theorem eChain_r {F F' : PyData → PyData → Option PyData} : eChain F F' f g h ρ = (f ρ).bind fun x => (g ρ).bind fun y => (F x y).bind fun z => match z with
  | .bool true => (h ρ).bind fun w => F' y w
  | .bool false => some (.bool false)
  | _ => none := rfl
@[simp] theorem eSl_r {F : PyData → Option Int → Option Int → Option PyData} {a b : SO} : eSl F f a b ρ = (f ρ).bind fun d => (a ρ).bind fun lo => (b ρ).bind fun hi => F d lo hi := rfl
@[simp] theorem oNo_r : oNo ρ = some none := rfl
@[simp] theorem oSo_r : oSo f ρ = (f ρ).bind asI := rfl
@[simp] theorem asI_r : asI (.int i) = some (some i) := rfl
@[simp] theorem bT_r : bT f ρ = (f ρ).bind asB := rfl
@[simp] theorem bV_r : bV f ρ = (f ρ).bind truth := rfl
@[simp] theorem bYes_r : bYes ρ = some true := rfl
@[simp] theorem asB_r {b : Bool} : asB (.bool b) = some b := rfl
@[simp] theorem truth_b {b : Bool} : truth (.bool b) = some b := rfl
@[simp] theorem truth_l {l : List PyData} : truth (.list l) = some (!l.isEmpty) := rfl
@[simp] theorem truth_t {l : List PyData} : truth (.tuple l) = some (!l.isEmpty) := rfl
@[simp] theorem truth_n : truth .none = some false := rfl
@[simp] theorem truth_i : truth (.int i) = some (i != 0) := rfl
variable {t u : SB}
@[simp] theorem bAnd_r : bAnd t u ρ = (t ρ).bind fun k => if k = true then u ρ else some false := rfl
@[simp] theorem bOr_r : bOr t u ρ = (t ρ).bind fun k => if k = true then some true else u ρ := rfl
@[simp] theorem bNot_r : bNot t ρ = (t ρ).map fun k => !k := rfl
@[simp] theorem oAdd_i : oAdd (.int i) (.int j) = some (.int (i + j)) := rfl
@[simp] theorem oSub_i : oSub (.int i) (.int j) = some (.int (i - j)) := rfl
@[simp] theorem oNeg_i : oNeg (.int i) = some (.int (-i)) := rfl
@[simp] theorem oLt_i : oLt (.int i) (.int j) = some (.bool (decide (i < j))) := rfl
@[simp] theorem oLe_i : oLe (.int i) (.int j) = some (.bool (decide (i ≤ j))) := rfl
@[simp] theorem oGt_i : oGt (.int i) (.int j) = some (.bool (decide (j < i))) := rfl
@[simp] theorem oGe_i : oGe (.int i) (.int j) = some (.bool (decide (j ≤ i))) := rfl
@[simp] theorem oMod_i (h : 0 < j) : oMod (.int i) (.int j) = some (.int (i % j)) := if_pos h
@[simp] theorem oFdiv_i (h : 0 < j) (h2 : j < 18446744073709551616) : oFdiv (.int i) (.int j) = some (.int (i / j)) := if_pos ⟨h, h2⟩
theorem oMul_l (h1 : -18446744073709551616 < i) (h2 : i < 18446744073709551616) : oMulS (.int i) (.int j) = some (.int (i * j)) := if_pos (show CMul i j from .inl ⟨h1, h2⟩)
theorem oMul_r (h1 : -18446744073709551616 < j) (h2 : j < 18446744073709551616) : oMulS (.int i) (.int j) = some (.int (i * j)) := if_pos (show CMul i j from .inr ⟨h1, h2⟩)
@[simp] theorem oPow18 : oPow (.int 10) (.int 18) = some (.int 1000000000000000000) := by
  show (if CPow 10 18 then some (PyData.int (10 ^ (18 : Int).toNat)) else none) = _
  rw [if_pos (by decide)]; rfl
@[simp] theorem oPow16 : oPow (.int 10) (.int 16) = some (.int 10000000000000000) := by
  show (if CPow 10 16 then some (PyData.int (10 ^ (16 : Int).toNat)) else none) = _
  rw [if_pos (by decide)]; rfl
@[simp] theorem oPow15 : oPow (.int 10) (.int 15) = some (.int 1000000000000000) := by
  show (if CPow 10 15 then some (PyData.int (10 ^ (15 : Int).toNat)) else none) = _
  rw [if_pos (by decide)]; rfl
@[simp] theorem oPow14 : oPow (.int 10) (.int 14) = some (.int 100000000000000) := by
  show (if CPow 10 14 then some (PyData.int (10 ^ (14 : Int).toNat)) else none) = _
  rw [if_pos (by decide)]; rfl
@[simp] theorem oPow13 : oPow (.int 10) (.int 13) = some (.int 10000000000000) := by
  show (if CPow 10 13 then some (PyData.int (10 ^ (13 : Int).toNat)) else none) = _
  rw [if_pos (by decide)]; rfl
@[simp] theorem oPow12 : oPow (.int 10) (.int 12) = some (.int 1000000000000) := by
  show (if CPow 10 12 then some (PyData.int (10 ^ (12 : Int).toNat)) else none) = _
  rw [if_pos (by decide)]; rfl
@[simp] theorem oPow9 : oPow (.int 10) (.int 9) = some (.int 1000000000) := by
  show (if CPow 10 9 then some (PyData.int (10 ^ (9 : Int).toNat)) else none) = _
  rw [if_pos (by decide)]; rfl
@[simp] theorem oPow8 : oPow (.int 10) (.int 8) = some (.int 100000000) := by
  show (if CPow 10 8 then some (PyData.int (10 ^ (8 : Int).toNat)) else none) = _
  rw [if_pos (by decide)]; rfl
@[simp] theorem oPow7 : oPow (.int 10) (.int 7) = some (.int 10000000) := by
  show (if CPow 10 7 then some (PyData.int (10 ^ (7 : Int).toNat)) else none) = _
  rw [if_pos (by decide)]; rfl
@[simp] theorem oPow6 : oPow (.int 10) (.int 6) = some (.int 1000000) := by
  show (if CPow 10 6 then some (PyData.int (10 ^ (6 : Int).toNat)) else none) = _
  rw [if_pos (by decide)]; rfl
@[simp] theorem cInt_i : cInt [.int i] = some (.int i) := rfl
@[simp] theorem cInt_b {b : Bool} : cInt [.bool b] = some (.int (if b then 1 else 0)) := rfl
@[simp] theorem cAbs_i : cAbs [.int i] = some (.int (if i < 0 then -i else i)) := rfl
@[simp] theorem cMax2_i : cMax2 [.int i, .int j] = some (.int (max i j)) := by
  show some (PyData.int (if j > i then j else i)) = _
  congr 2; split <;> omega
@[simp] theorem cMin2_i : cMin2 [.int i, .int j] = some (.int (min i j)) := by
  show some (PyData.int (if j < i then j else i)) = _
  congr 2; split <;> omega
@[simp] theorem cLen_l {l : List PyData} : cLen [.list l] = some (.int (l.length : Nat)) := rfl
@[simp] theorem cLen_t {l : List PyData} : cLen [.tuple l] = some (.int (l.length : Nat)) := rfl
@[simp] theorem cList_l {l : List PyData} : cList [.list l] = some (.list l) := rfl
@[simp] theorem cList_t {l : List PyData} : cList [.tuple l] = some (.list l) := rfl
@[simp] theorem cSum_i {l : List Int} : cSum [.list (l.map .int)] = some (.int l.sum) := by
  show (intsOf (l.map .int)).map _ = _
  rw [intsOf_map]; rfl
@[simp] theorem isT_int_i : isT "int" (.int i) = some true := rfl
@[simp] theorem isT_bool_i : isT "bool" (.int i) = some false := rfl
@[simp] theorem isT_bool_b {b : Bool} : isT "bool" (.bool b) = some true := rfl
@[simp] theorem isT_int_b {b : Bool} : isT "int" (.bool b) = some true := rfl
@[simp] theorem isT_tuple_t {l : List PyData} : isT "tuple" (.tuple l) = some true := rfl
@[simp] theorem isT_list_l {l : List PyData} : isT "list" (.list l) = some true := rfl
@[simp] theorem oEq_i : oEq (.int i) (.int j) = some (.bool (decide (i = j))) := by
  show (if SeqAt.shaped (.int i) = true ∧ SeqAt.shaped (.int j) = true then some (PyData.bool (PyData.eqv (.int i) (.int j))) else none) = _
  rw [if_pos ⟨rfl, rfl⟩]
  show some (PyData.bool (i == j)) = _
  rw [Bool.beq_eq_decide_eq]
@[simp] theorem oNe_i : oNe (.int i) (.int j) = some (.bool (!decide (i = j))) := by
  show (if SeqAt.shaped (.int i) = true ∧ SeqAt.shaped (.int j) = true then some (PyData.bool (!PyData.eqv (.int i) (.int j))) else none) = _
  rw [if_pos ⟨rfl, rfl⟩]
  show some (PyData.bool (!(i == j))) = _
  rw [Bool.beq_eq_decide_eq]
@[simp] theorem oEq_b {a b : Bool} : oEq (.bool a) (.bool b) = some (.bool (a == b)) := if_pos ⟨rfl, rfl⟩
@[simp] theorem oNe_b {a b : Bool} : oNe (.bool a) (.bool b) = some (.bool (!(a == b))) := if_pos ⟨rfl, rfl⟩
@[simp] theorem oIsN_n : oIsN .none .none = some (.bool true) := rfl
@[simp] theorem oNotN_n : oNotN .none .none = some (.bool false) := rfl
@[simp] theorem oIsN_i : oIsN (.int i) .none = some (.bool false) := rfl
@[simp] theorem oNotN_i : oNotN (.int i) .none = some (.bool true) := rfl
@[simp] theorem oIsB_b {a b : Bool} : oIsB (.bool a) (.bool b) = some (.bool (decide (a = b))) := rfl
@[simp] theorem oNotB_b {a b : Bool} : oNotB (.bool a) (.bool b) = some (.bool (!decide (a = b))) := rfl
/-- an item of data, by a place -/
theorem atI_pos {α : Type} {l : List α} (h0 : 0 ≤ i) : atI l i = l[i.toNat]? := by
  unfold L2.atI ixN
  rw [if_pos h0]
  by_cases h : i < l.length
  · rw [if_pos h]; rfl
  · rw [if_neg h]
    show none = _
    rw [List.getElem?_eq_none (by omega)]
theorem atI_neg {α : Type} {l : List α} (h0 : i < 0) (h1 : -(l.length : Int) ≤ i) : atI l i = l[(i + l.length).toNat]? := by
  unfold L2.atI ixN
  rw [if_neg (by omega), if_pos h1]; rfl
@[simp] theorem oIx_l {l : List PyData} : oIx (.list l) (.int i) = atI l i := rfl
@[simp] theorem oIx_t {l : List PyData} : oIx (.tuple l) (.int i) = atI l i := rfl
@[simp] theorem atI_0 {α : Type} {a : α} {l : List α} : atI (a :: l) 0 = some a := by rw [atI_pos (by decide)]; rfl
@[simp] theorem atI_1 {α : Type} {a b : α} {l : List α} : atI (a :: b :: l) 1 = some b := by rw [atI_pos (by decide)]; rfl
@[simp] theorem atI_2 {α : Type} {a b c : α} {l : List α} : atI (a :: b :: c :: l) 2 = some c := by rw [atI_pos (by decide)]; rfl
@[simp] theorem atI_3 {α : Type} {a b c e : α} {l : List α} : atI (a :: b :: c :: e :: l) 3 = some e := by rw [atI_pos (by decide)]; rfl
theorem atI_lt {α : Type} {l : List α} (h0 : 0 ≤ i) (h1 : i < l.length) : atI l i = some (l[i.toNat]'(by omega)) := by
  rw [atI_pos h0]; exact List.getElem?_eq_getElem (by omega)
theorem atI_ex {α : Type} {l : List α} (h0 : 0 ≤ i) (h1 : i < l.length) : ∃ v, v ∈ l ∧ atI l i = some v := ⟨_, List.getElem_mem _, atI_lt h0 h1⟩
theorem pickI (l : List Int) {i : Int} (h0 : 0 ≤ i) (h1 : i < l.length) : ∃ v, v ∈ l ∧ atI (l.map PyData.int) i = some (.int v) := by
  obtain ⟨v, h2, h3⟩ := atI_ex (l := l.map PyData.int) h0 (by rw [List.length_map]; exact h1)
  obtain ⟨w, h4, rfl⟩ := List.mem_map.mp h2
  exact ⟨w, h4, h3⟩
end
/-! ### statements -/
section
variable {ρ ρ' : Rho} {f g : SS} {e : SE} {t : SB} {k : Nat} {d : PyData} {o : Out}
theorem seq_nx (h : f ρ = some (.nx ρ')) : sSeqn f g ρ = g ρ' := by unfold sSeqn; rw [h]; rfl
theorem seq_rt (h : f ρ = some (.rt d)) : sSeqn f g ρ = some (.rt d) := by unfold sSeqn; rw [h]; rfl
theorem seq_ct (h : f ρ = some (.ct ρ')) : sSeqn f g ρ = some (.ct ρ') := by unfold sSeqn; rw [h]; rfl
theorem seq_bk (h : f ρ = some (.bk ρ')) : sSeqn f g ρ = some (.bk ρ') := by unfold sSeqn; rw [h]; rfl
@[simp] theorem sSeqn_r : sSeqn f g ρ = (f ρ).bind fun o => match o with | .nx ρ' => g ρ' | o => some o := rfl
@[simp] theorem sNext_r : sNext ρ = some (.nx ρ) := rfl
@[simp] theorem sBrk_r : sBrk ρ = some (.bk ρ) := rfl
@[simp] theorem sCnt_r : sCnt ρ = some (.ct ρ) := rfl
@[simp] theorem sRetN_r : sRetN ρ = some (.rt .none) := rfl
@[simp] theorem sExpr_r : sExpr e ρ = (e ρ).bind fun _ => some (.nx ρ) := rfl
@[simp] theorem sRet_r : sRet e ρ = (e ρ).bind fun d => some (.rt d) := rfl
@[simp] theorem sRetOwn_r : sRetOwn k ρ = (match getS ρ k with | some (.own d) => some (.rt d) | _ => none) := by rw [getS_eq]; rfl
@[simp] theorem sIf_r : sIf t f g ρ = (t ρ).bind fun k => if k = true then f ρ else g ρ := rfl
@[simp] theorem sSet_r : sSet k e ρ = (e ρ).bind fun d => if k < ρ.length then some (.nx (ρ.set k (.val d))) else none := rfl
@[simp] theorem sOwn_r : sOwn k e ρ = (e ρ).bind fun d => if k < ρ.length then some (.nx (ρ.set k (.own d))) else none := rfl
@[simp] theorem sAsg_r {g : SG} : sAsg e g ρ = (e ρ).bind fun d => (g d ρ).bind fun ρ' => some (.nx ρ') := rfl
@[simp] theorem gV_r : gV k d ρ = if k < ρ.length then some (ρ.set k (.val d)) else none := rfl
@[simp] theorem gT_r {n : Nat} {r : SGs} {ds : List PyData} : gT n r (.tuple ds) ρ = if ds.length = n then r ds ρ else none := rfl
@[simp] theorem gsNil_r : gsNil [] ρ = some ρ := rfl
@[simp] theorem gsCons_r {g : SG} {r : SGs} {ds : List PyData} : gsCons g r (d :: ds) ρ = (g d ρ).bind fun ρ' => r ds ρ' := rfl
@[simp] theorem sFz_r : sFz k f ρ = (match getS ρ k with | some (.own d) => f (ρ.set k (.val d)) | some (.val _) => f ρ | _ => none) := by rw [getS_eq]; rfl
@[simp] theorem sAug_r {F : PyData → PyData → Option PyData} : sAug k F e ρ = (eV k ρ).bind fun x => (e ρ).bind fun y => (F x y).bind fun d => some (.nx (ρ.set k (.val d))) := rfl
@[simp] theorem addI_r {i j : Int} : addI (.int i) (.int j) = some (.int (i + j)) := rfl
@[simp] theorem subI_r {i j : Int} : subI (.int i) (.int j) = some (.int (i - j)) := rfl
@[simp] theorem sFor_r {fi : SI} {g : SG} {b : SS} : sFor fi g b ρ = (fi ρ).bind fun ds => forGo g b ds ρ := rfl
@[simp] theorem sSeq_r : sSeq e ρ = (e ρ).bind itemsOf := rfl
@[simp] theorem sArgs_r {F : List PyData → Option (List PyData)} {r : SA} : sArgs F r ρ = (r ρ).bind F := rfl
@[simp] theorem itemsOf_l {l : List PyData} : itemsOf (.list l) = some l := rfl
@[simp] theorem itemsOf_t {l : List PyData} : itemsOf (.tuple l) = some l := rfl
@[simp] theorem sMut_r {F : List PyData → List PyData → Option PyData} {r : SA} : sMut F k r ρ = (match getS ρ k with | some (.own (.list l)) => (r ρ).bind fun ds => (F l ds).bind fun d => some (.nx (ρ.set k (.own d))) | _ => none) := by rw [getS_eq]; rfl
@[simp] theorem fApp_r {l : List PyData} : fApp l [d] = if l.length < sizeLine then some (.list (l ++ [d])) else none := rfl
@[simp] theorem slotsOf_nil : slotsOf [] [] = [] := rfl
@[simp] theorem slotsOf_val {ms : List Md} {ds : List PyData} : slotsOf (.val :: ms) (d :: ds) = .val d :: slotsOf ms ds := rfl
@[simp] theorem slotsOf_bor {ms : List Md} {ds : List PyData} : slotsOf (.bor :: ms) (d :: ds) = .bor d :: slotsOf ms ds := rfl
@[simp] theorem slotsOf_scr {ms : List Md} {ds : List PyData} : slotsOf (.scr :: ms) (d :: ds) = .scr d :: slotsOf ms ds := rfl
/-- a def's value: from how its body ends -/
theorem runF_rt {n : Nat} {rm : Md} {ms : List Md} {ds : List PyData} (hl : ds.length = ms.length) (h : f (slotsOf ms ds ++ List.replicate (n - ds.length) .un) = some (.rt d)) : runF n rm ms f ds = some d := by
  unfold runF
  rw [if_pos hl, h]
  cases rm <;> rfl
theorem size_le {n : Nat} (h : n ≤ 16777216) : n ≤ sizeLine := by rw [sizeLine_eq]; exact h
/-! ### loops -/
/-- a loop that runs to its end: an invariant by the turn -/
theorem for_all {g : SG} {b : SS} {ds : List PyData} (I : Nat → Rho → Prop) (h0 : I 0 ρ)
    (turn : ∀ i d ρ, ds[i]? = some d → I i ρ → ∃ ρ1 ρ', g d ρ = some ρ1 ∧ (b ρ1 = some (.nx ρ') ∨ b ρ1 = some (.ct ρ')) ∧ I (i + 1) ρ') : ∃ ρ', forGo g b ds ρ = some (.nx ρ') ∧ I ds.length ρ' := by
  have key : ∀ (rest : List PyData) (i : Nat) (ρ : Rho), i ≤ ds.length → ds.drop i = rest → I i ρ → ∃ ρ', forGo g b rest ρ = some (.nx ρ') ∧ I ds.length ρ' := by
    intro rest
    induction rest with
    | nil =>
      intro i ρ hle hd hi
      have : ds.length ≤ i := List.drop_eq_nil_iff.mp hd
      have e : i = ds.length := by omega
      exact ⟨ρ, rfl, by rw [← e]; exact hi⟩
    | cons d r ih =>
      intro i ρ hle hd hi
      have hlt : i < ds.length := by
        have := congrArg List.length hd
        rw [List.length_drop, List.length_cons] at this
        omega
      have h1 : ds[i]? = some d := by
        rw [← List.head?_drop, hd]; rfl
      obtain ⟨ρ1, ρ', e1, e2, e3⟩ := turn i d ρ h1 hi
      have h2 : ds.drop (i + 1) = r := by rw [← List.tail_drop, hd]; rfl
      obtain ⟨ρ2, e4, e5⟩ := ih (i + 1) ρ' hlt h2 e3
      refine ⟨ρ2, ?_, e5⟩
      unfold forGo
      rw [e1]
      rcases e2 with e2 | e2
      · show (b ρ1).bind _ = _
        rw [e2]; exact e4
      · show (b ρ1).bind _ = _
        rw [e2]; exact e4
  exact key ds 0 ρ (Nat.zero_le _) rfl h0
end
/-! ### == of plain data (no bools, no dicts) -/
mutual
def clean : Nat → PyData → Bool
  | _, .none => true
  | _, .int _ => true
  | _, .str x => PyData.strOk x
  | n + 1, .list l => cleanA n l
  | n + 1, .tuple l => cleanA n l
  | _, _ => false
def cleanA : Nat → List PyData → Bool
  | _, [] => true
  | n, d :: r => clean n d && cleanA n r
end
mutual
theorem clean_lay : ∀ (n : Nat) (d : PyData), clean n d = true → d.canLay0 = true ∧ d.depth ≤ n
  | _, .none, _ => ⟨by simp [PyData.canLay0], by simp [PyData.depth]⟩
  | _, .int _, _ => ⟨by simp [PyData.canLay0], by simp [PyData.depth]⟩
  | _, .bool _, h => by simp [clean] at h
  | _, .str x, h => ⟨by simpa [PyData.canLay0, clean] using h, by simp [PyData.depth]⟩
  | 0, .list l, h => by simp [clean] at h
  | 0, .tuple l, h => by simp [clean] at h
  | n + 1, .list l, h => by
    obtain ⟨h1, h2⟩ := cleanA_lay n l (by simpa [clean] using h)
    exact ⟨by simpa [PyData.canLay0] using h1, by simpa [PyData.depth] using h2⟩
  | n + 1, .tuple l, h => by
    obtain ⟨h1, h2⟩ := cleanA_lay n l (by simpa [clean] using h)
    exact ⟨by simpa [PyData.canLay0] using h1, by simpa [PyData.depth] using h2⟩
  | _, .dict _, h => by simp [clean] at h
theorem cleanA_lay : ∀ (n : Nat) (l : List PyData), cleanA n l = true → PyData.canLayAll0 l = true ∧ PyData.depthAll l ≤ n
  | _, [], _ => ⟨by simp [PyData.canLayAll0], by simp [PyData.depthAll]⟩
  | n, d :: r, h => by
    have h' : clean n d = true ∧ cleanA n r = true := by simpa [cleanA] using h
    obtain ⟨a1, a2⟩ := clean_lay n d h'.1
    obtain ⟨b1, b2⟩ := cleanA_lay n r h'.2
    exact ⟨by simp [PyData.canLayAll0, a1, b1], by simp only [PyData.depthAll]; omega⟩
end
mutual
theorem eqv_iff : ∀ (n : Nat) (d e : PyData), clean n d = true → clean n e = true → (PyData.eqv d e = true ↔ d = e)
  | _, .none, .none, _, _ => by simp [PyData.eqv]
  | _, .none, .int _, _, _ => by simp [PyData.eqv]
  | _, .none, .str _, _, _ => by simp [PyData.eqv]
  | _, .none, .list _, _, _ => by simp [PyData.eqv]
  | _, .none, .tuple _, _, _ => by simp [PyData.eqv]
  | _, .int _, .none, _, _ => by simp [PyData.eqv]
  | _, .int _, .int _, _, _ => by simp [PyData.eqv]
  | _, .int _, .str _, _, _ => by simp [PyData.eqv]
  | _, .int _, .list _, _, _ => by simp [PyData.eqv]
  | _, .int _, .tuple _, _, _ => by simp [PyData.eqv]
  | _, .str _, .none, _, _ => by simp [PyData.eqv]
  | _, .str _, .int _, _, _ => by simp [PyData.eqv]
  | _, .str _, .str _, _, _ => by simp [PyData.eqv]
  | _, .str _, .list _, _, _ => by simp [PyData.eqv]
  | _, .str _, .tuple _, _, _ => by simp [PyData.eqv]
  | _, .list _, .none, _, _ => by simp [PyData.eqv]
  | _, .list _, .int _, _, _ => by simp [PyData.eqv]
  | _, .list _, .str _, _, _ => by simp [PyData.eqv]
  | 0, .list _, .list _, h, _ => by simp [clean] at h
  | n + 1, .list l, .list k, h, h2 => by
    have := eqvA_iff n l k (by simpa [clean] using h) (by simpa [clean] using h2)
    simp only [PyData.eqv, this, PyData.list.injEq]
  | _, .list _, .tuple _, _, _ => by simp [PyData.eqv]
  | _, .tuple _, .none, _, _ => by simp [PyData.eqv]
  | _, .tuple _, .int _, _, _ => by simp [PyData.eqv]
  | _, .tuple _, .str _, _, _ => by simp [PyData.eqv]
  | _, .tuple _, .list _, _, _ => by simp [PyData.eqv]
  | 0, .tuple _, .tuple _, h, _ => by simp [clean] at h
  | n + 1, .tuple l, .tuple k, h, h2 => by
    have := eqvA_iff n l k (by simpa [clean] using h) (by simpa [clean] using h2)
    simp only [PyData.eqv, this, PyData.tuple.injEq]
  | _, .bool _, _, h, _ => by simp [clean] at h
  | _, .dict _, _, h, _ => by simp [clean] at h
  | _, _, .bool _, _, h => by simp [clean] at h
  | _, _, .dict _, _, h => by simp [clean] at h
theorem eqvA_iff : ∀ (n : Nat) (l k : List PyData), cleanA n l = true → cleanA n k = true → (PyData.eqvAll l k = true ↔ l = k)
  | _, [], [], _, _ => by simp [PyData.eqvAll]
  | _, [], _ :: _, _, _ => by simp [PyData.eqvAll]
  | _, _ :: _, [], _, _ => by simp [PyData.eqvAll]
  | n, d :: l, e :: k, h, h2 => by
    have h' : clean n d = true ∧ cleanA n l = true := by simpa [cleanA] using h
    have h2' : clean n e = true ∧ cleanA n k = true := by simpa [cleanA] using h2
    have a := eqv_iff n d e h'.1 h2'.1
    have b := eqvA_iff n l k h'.2 h2'.2
    simp only [PyData.eqvAll, Bool.and_eq_true, a, b, List.cons.injEq]
end
theorem clean_shaped {n : Nat} {d : PyData} (hn : n ≤ 64) (h : clean n d = true) : SeqAt.shaped d = true := by
  obtain ⟨h1, h2⟩ := clean_lay n d h
  unfold SeqAt.shaped
  rw [h1, Bool.true_and]
  exact decide_eq_true (by omega)
theorem oEq_c {d e : PyData} (h1 : clean 9 d = true) (h2 : clean 9 e = true) : oEq d e = some (.bool (PyData.eqv d e)) := if_pos ⟨clean_shaped (by decide) h1, clean_shaped (by decide) h2⟩
theorem oNe_c {d e : PyData} (h1 : clean 9 d = true) (h2 : clean 9 e = true) : oNe d e = some (.bool (!PyData.eqv d e)) := if_pos ⟨clean_shaped (by decide) h1, clean_shaped (by decide) h2⟩
theorem oEq_self {d : PyData} (h1 : clean 9 d = true) : oEq d d = some (.bool true) := by rw [oEq_c h1 h1, (eqv_iff 9 d d h1 h1).mpr rfl]
theorem oNe_self {d : PyData} (h1 : clean 9 d = true) : oNe d d = some (.bool false) := by rw [oNe_c h1 h1, (eqv_iff 9 d d h1 h1).mpr rfl]; rfl
theorem eqv_dec {d e : PyData} (h1 : clean 9 d = true) (h2 : clean 9 e = true) (c : Prop) [Decidable c] (h : d = e ↔ c) : PyData.eqv d e = decide c := by
  have := eqv_iff 9 d e h1 h2
  by_cases q : c
  · rw [decide_eq_true q]; exact this.mpr (h.mpr q)
  · rw [decide_eq_false q]
    cases z : PyData.eqv d e with
    | false => rfl
    | true => exact absurd (h.mp (this.mp z)) q
/-- a rectangle -/
abbrev rD (x y w h : Int) : PyData := .tuple [.int x, .int y, .int w, .int h]
theorem clean_r {n : Nat} (x y w h : Int) : clean (n + 1) (rD x y w h) = true := by simp [clean, cleanA]
theorem oEq_r {x y w h x' y' w' h' : Int} : oEq (rD x y w h) (rD x' y' w' h') = some (.bool (decide (x = x' ∧ y = y' ∧ w = w' ∧ h = h'))) := by
  rw [oEq_c (clean_r ..) (clean_r ..), eqv_dec (clean_r ..) (clean_r ..) (x = x' ∧ y = y' ∧ w = w' ∧ h = h') (by simp)]
theorem oNe_r {x y w h x' y' w' h' : Int} : oNe (rD x y w h) (rD x' y' w' h') = some (.bool (!decide (x = x' ∧ y = y' ∧ w = w' ∧ h = h'))) := by
  rw [oNe_c (clean_r ..) (clean_r ..), eqv_dec (clean_r ..) (clean_r ..) (x = x' ∧ y = y' ∧ w = w' ∧ h = h') (by simp)]
/-! ### comprehensions over encoded lists -/
section
variable {ρ : Rho} {g : SG} {t : SB} {e : SE} {α : Type}
@[simp] theorem eLc_r {fi : SI} {vs : List Nat} : eLc fi g t e vs ρ = (fi ρ).bind fun ds => (lcGo g t e (wipeR ρ vs) ds).bind fun ys => if ys.length ≤ sizeLine then some (.list ys) else none := rfl
@[simp] theorem wipeR_nil : wipeR ρ [] = ρ := rfl
@[simp] theorem wipeR_cons {v : Nat} {vs : List Nat} : wipeR ρ (v :: vs) = (wipeR ρ vs).set v .un := rfl
theorem lcGo_filter (enc f : α → PyData) (p : α → Bool) : ∀ (xs : List α), (∀ a ∈ xs, ∃ ρ1, g (enc a) ρ = some ρ1 ∧ t ρ1 = some (p a) ∧ (p a = true → e ρ1 = some (f a))) → lcGo g t e ρ (xs.map enc) = some ((xs.filter p).map f)
  | [], _ => rfl
  | a :: r, h => by
    obtain ⟨ρ1, h1, h2, h3⟩ := h a List.mem_cons_self
    have ih := lcGo_filter enc f p r fun b hb => h b (List.mem_cons_of_mem _ hb)
    show (g (enc a) ρ).bind _ = _
    rw [h1]
    show (t ρ1).bind _ = _
    rw [h2]
    cases hp : p a with
    | true =>
      show (e ρ1).bind _ = _
      rw [h3 hp]
      show (lcGo g t e ρ (r.map enc)).bind _ = _
      rw [ih, List.filter_cons_of_pos hp]; rfl
    | false =>
      show lcGo g t e ρ (r.map enc) = _
      rw [ih, List.filter_cons_of_neg (by rw [hp]; exact Bool.false_ne_true)]
theorem lcGo_map (enc f : α → PyData) (xs : List α) (h : ∀ a ∈ xs, ∃ ρ1, g (enc a) ρ = some ρ1 ∧ t ρ1 = some true ∧ e ρ1 = some (f a)) : lcGo g t e ρ (xs.map enc) = some (xs.map f) := by
  have := lcGo_filter (ρ := ρ) (g := g) (t := t) (e := e) enc f (fun _ => true) xs fun a ha => by
    obtain ⟨ρ1, h1, h2, h3⟩ := h a ha
    exact ⟨ρ1, h1, h2, fun _ => h3⟩
  rw [this]
  congr 2
  exact List.filter_eq_self.mpr fun _ _ => rfl
/-- a part of a list -/
def cutG (xs : List α) (lo hi : Option Int) : List α := (xs.drop (HT.sIx xs.length 0 lo)).take (HT.sIx xs.length xs.length hi - HT.sIx xs.length 0 lo)
theorem cutD_map (f : α → PyData) (xs : List α) (lo hi : Option Int) : cutD (xs.map f) lo hi = (cutG xs lo hi).map f := by
  unfold cutD cutG
  rw [List.length_map, List.map_take, List.map_drop]
theorem cutG_len (xs : List α) {i j : Int} (h0 : 0 ≤ i) (h1 : i ≤ j) : (cutG xs (some i) (some j)).length ≤ (j - i).toNat := by
  unfold cutG
  obtain ⟨a, rfl⟩ := Int.eq_ofNat_of_zero_le h0
  obtain ⟨b, rfl⟩ := Int.eq_ofNat_of_zero_le (Int.le_trans h0 h1)
  rw [HT.sIx_nat, HT.sIx_nat, List.length_take, List.length_drop]
  omega
@[simp] theorem oSlL_l {l : List PyData} {lo hi : Option Int} : oSlL (.list l) lo hi = some (.list (cutD l lo hi)) := rfl
@[simp] theorem oSl_l {l : List PyData} {lo hi : Option Int} : oSl (.list l) lo hi = some (.list (cutD l lo hi)) := rfl
@[simp] theorem rng1_r {j : Int} (h1 : -4611686018427387904 ≤ j) (h2 : j < 4611686018427387904) : rng1 [.int j] = some (rangeD 0 j.toNat) := if_pos ⟨by omega, by omega⟩
@[simp] theorem rng2_r {i j : Int} (h1 : -4611686018427387904 ≤ i) (h2 : i < 4611686018427387904) (h3 : -4611686018427387904 ≤ j) (h4 : j < 4611686018427387904) : rng2 [.int i, .int j] = some (rangeD i (j - i).toNat) := if_pos ⟨by omega, by omega, by omega, by omega⟩
theorem rangeD_map (lo : Int) (n : Nat) : rangeD lo n = ((List.range n).map fun i : Nat => lo + (i : Int)).map .int := by
  unfold rangeD; rw [List.map_map]; rfl
end
/-- rectangles, encoded -/
abbrev R4 := Int × Int × Int × Int
def encR (r : R4) : PyData := rD r.1 r.2.1 r.2.2.1 r.2.2.2
theorem cleanA_map {α : Type} {n : Nat} {f : α → PyData} (h : ∀ a, clean n (f a) = true) (l : List α) : cleanA n (l.map f) = true := by
  induction l with
  | nil => simp [cleanA]
  | cons a r ih => simp [cleanA, h, ih]
theorem clean_rs (l : List R4) : clean 9 (.list (l.map encR)) = true := by
  show cleanA 8 _ = true
  exact cleanA_map (fun a => clean_r ..) l
theorem encR_inj {a b : R4} (h : encR a = encR b) : a = b := by
  simp [encR] at h
  ext <;> simp [h]
theorem map_inj {α : Type} {f : α → PyData} (h : ∀ {a b}, f a = f b → a = b) : ∀ {l k : List α}, l.map f = k.map f → l = k
  | [], [], _ => rfl
  | [], _ :: _, e => by simp at e
  | _ :: _, [], e => by simp at e
  | a :: l, b :: k, e => by
    simp only [List.map_cons, List.cons.injEq] at e
    rw [h e.1, map_inj h e.2]
theorem oEq_rs (l k : List R4) : oEq (.list (l.map encR)) (.list (k.map encR)) = some (.bool (decide (l = k))) := by
  rw [oEq_c (clean_rs l) (clean_rs k), eqv_dec (clean_rs l) (clean_rs k) (l = k)]
  simp only [PyData.list.injEq]
  exact ⟨fun h => map_inj encR_inj h, fun h => by rw [h]⟩
theorem oNe_rs (l k : List R4) : oNe (.list (l.map encR)) (.list (k.map encR)) = some (.bool (!decide (l = k))) := by
  rw [oNe_c (clean_rs l) (clean_rs k), eqv_dec (clean_rs l) (clean_rs k) (l = k)]
  simp only [PyData.list.injEq]
  exact ⟨fun h => map_inj encR_inj h, fun h => by rw [h]⟩
end DV

namespace DV
open PySem L2 PySem.Spec PyProof.Rows
section
variable {X : Cx} {K : PySem.W.Frag} {a b e : Expr} {f g fe : SE} {rm : Md} {x : Str} {pos p1 apos cpos : Pos}
/-! ### in -/
theorem op_inA (hu : X.A.units + 65 < cLine) : OpR X (compareOp .In) (fun x y H Q => (∃ (c : Nat) (z : Str), x = .str ⟨#[c]⟩ ∧ y = .str z ∧ Q (.bl (decide (c ∈ z.cps.toList))) H) ∨ rInD X.K x y H Q) := OpR.or op_in_sign (op_inD hu)
theorem op_notInA (hu : X.A.units + 65 < cLine) : OpR X (compareOp .NotIn) (fun x y H Q => (∃ (c : Nat) (z : Str), x = .str ⟨#[c]⟩ ∧ y = .str z ∧ Q (.bl (!decide (c ∈ z.cps.toList))) H) ∨ rNotInD X.K x y H Q) := OpR.or op_notIn_sign (op_notInD hu)
theorem units65 {k : Nat} {A : Around} (r : Room k A) : A.units + 65 < cLine := by have := r.un; omega
def oIn (a b : PyData) : Option PyData := match b with
  | .list ds => if SeqAt.shaped a = true ∧ SeqAt.shaped (.list ds) = true then some (.bool (ds.any fun z => PyData.eqv z a)) else none
  | b => oInS a b
def oNotIn (a b : PyData) : Option PyData := match b with
  | .list ds => if SeqAt.shaped a = true ∧ SeqAt.shaped (.list ds) = true then some (.bool (!ds.any fun z => PyData.eqv z a)) else none
  | b => oNotInS a b
theorem opf_in {X : Cx} : OpF X.K .val (fun x y H Q => (∃ (c : Nat) (z : Str), x = .str ⟨#[c]⟩ ∧ y = .str z ∧ Q (.bl (decide (c ∈ z.cps.toList))) H) ∨ rInD X.K x y H Q) oIn := fun G H d1 d2 d x y Q e r1 r2 h q => by
  unfold oIn at h
  split at h
  · obtain ⟨⟨c1, c2⟩, rfl⟩ := if_some h
    exact .inr ⟨d1, _, r1.dp e (SeqAt.canLay_of_shaped c1), r2.dp e (SeqAt.canLay_of_shaped c2), c1, c2, q G H _ (Gx.refl e) fun _ => .bl _⟩
  · exact .inl (opf_inS G H d1 d2 d x y Q e r1 r2 h q)
theorem opf_notIn {X : Cx} : OpF X.K .val (fun x y H Q => (∃ (c : Nat) (z : Str), x = .str ⟨#[c]⟩ ∧ y = .str z ∧ Q (.bl (!decide (c ∈ z.cps.toList))) H) ∨ rNotInD X.K x y H Q) oNotIn := fun G H d1 d2 d x y Q e r1 r2 h q => by
  unfold oNotIn at h
  split at h
  · obtain ⟨⟨c1, c2⟩, rfl⟩ := if_some h
    exact .inr ⟨d1, _, r1.dp e (SeqAt.canLay_of_shaped c1), r2.dp e (SeqAt.canLay_of_shaped c2), c1, c2, q G H _ (Gx.refl e) fun _ => .bl _⟩
  · exact .inl (opf_notInS G H d1 d2 d x y Q e r1 r2 h q)
/-! ### x[i] += v of an own list -/
def rGetL : V → V → Hp → VK → Prop := fun o i H Q => ∃ p xs k v, o = .ref p ∧ i = .int k ∧ H p = some (.lst xs) ∧ atI xs k = some v ∧ Q v H
theorem get_list : PGet X rGetL := by
  intro pins s σ H x y v u Q I rx ry h
  obtain ⟨p, xs, i, z, rfl, rfl, hq, he, q⟩ := h
  cases rx
  obtain ⟨t, rfl⟩ := ry
  obtain ⟨its, r, pl, hz⟩ := I.list (.inl (.inl hq))
  obtain ⟨j, h1, h2, h3, h4, h5⟩ := atI_get he
  obtain ⟨w, ew, rw'⟩ := r.get h2
  have hl := r.length
  have hn := line63
  have fin : EP X pins σ Q w s := ⟨z, H, I, rw', q⟩
  by_cases h0 : 0 ≤ i
  · have hj : i.toNat = j := by
      rw [seqIndex_of h0 h5] at h1
      exact Option.some.inj h1
    exact wpAny_getItem_list pl.isList h0 (by omega) (by rw [hj]; simpa using ew) fin
  · have hj : (i + (its.toArray.size : Int)).toNat = j := by
      rw [seqIndex_neg (by omega) h4] at h1
      rw [List.size_toArray, ← hl]
      exact Option.some.inj h1
    exact wpAny_getItem_list_neg pl.isList (by omega) (by rw [List.size_toArray] <;> omega) (by omega) (by rw [hj]; simpa using ew) fin
def sPutOp (i : Nat) (F : Int → Int → Int) (fi fv : SE) : SS := fun ρ => match ρ[i]? with
  | some (.own (.list l)) => (fi ρ).bind fun k => match k with
    | .int k => (atI l k).bind fun x => match x with
      | .int x => (fv ρ).bind fun y => match y with
        | .int y => (ixN l.length k).map fun j => .nx (ρ.set i (.own (.list (l.set j (.int (F x y))))))
        | _ => none
      | _ => none
    | _ => none
  | _ => none
theorem atI_RepA {K : PySem.W.Frag} {G : Hp} {ds : List PyData} {vs : List V} (r : RepA K G ds vs) {k : Int} {d : PyData} (h : atI ds k = some d) : ∃ v, atI vs k = some v ∧ Rep K G d v := by
  unfold atI at h ⊢
  rw [← r.len]
  cases e : ixN ds.length k with
  | none => rw [e] at h; cases h
  | some j =>
    rw [e] at h
    obtain ⟨v, h1, h2⟩ := r.get h
    exact ⟨v, h1, h2⟩
theorem s_putOp (i : Nat) {op : Operator} {F : Int → Int → Int} {tpos : Pos} (hp : PIp X op (ipI F)) (he : DX X .val e g) (hi : DX X .val b f) (hN : X.N[i]? = some x := by rfl) (hv : Vis X.env.scope x := by first | exact Or.inl rfl | exact Or.inr (Or.inl rfl) | exact Or.inr (Or.inr rfl)) (hd : (x == ("__debug__" : Str)) = false := by decide)
    (hcd : (x == ("__classdict__" : Str)) = false := by decide)
    (ha : ∀ ov iv new, augStore b ov iv new = (do holding [new, ov, iv] (setItem ov iv new); release [new, ov, iv] []; pure .next) := by intros; rfl) :
    DS X rm (.AugAssign (.Subscript (.Name x p1) b tpos) op e pos) (sPutOp i F f g) :=
  ⟨(ps_augS (pv i hN hv hd hcd) hi.pe get_list he.pe hp set_list ha).imp fun D σ H ⟨G0, H0, G, ρ, o, s, ed, q⟩ => by
    unfold sPutOp at ed
    split at ed
    · rename_i l h
      obtain ⟨k, e2, ed⟩ := bind_some ed
      split at ed
      · rename_i kk
        obtain ⟨x0, e3, ed⟩ := bind_some ed
        split at ed
        · rename_i xx
          obtain ⟨y0, e4, ed⟩ := bind_some ed
          split at ed
          · rename_i yy
            obtain ⟨j, hj, rfl⟩ := map_some ed
            obtain ⟨p, h1, h2, h3, h4⟩ := s.own h
            refine ⟨_, h1, G0, H0, G, ρ, _, s, e2, fun G1 H1 i1 gx1 r1 => ?_⟩
            have s1 := s.gx' gx1
            obtain ⟨p1', k1, k2, k3, k4⟩ := s1.own h
            rw [h1] at k1; cases k1
            obtain ⟨vs, hv', rl⟩ := own_list k4
            cases (show Rep X.K G1 (.int kk) i1 from r1)
            obtain ⟨v1, hv1, rv1⟩ := atI_RepA rl e3
            cases rv1
            refine ⟨p, vs, kk, _, rfl, rfl, hv', hv1, G0, H0, G1, ρ, _, s1, e4, fun G2 H2 y2 gx2 r2 => ?_⟩
            have s2 := s1.gx' gx2
            obtain ⟨p2, m1, m2, m3, m4⟩ := s2.own h
            rw [h1] at m1; cases m1
            obtain ⟨vs2, hv2, rl2⟩ := own_list m4
            cases (show Rep X.K G2 (.int yy) y2 from r2)
            refine ⟨xx, yy, rfl, rfl, p, vs2, kk, j, rfl, rfl, hv2, by rw [← rl2.len]; exact hj, ?_⟩
            exact q G2 σ _ (gx1.g.trans gx2.g) (s2.write h h1 m2 m3 (.lst upd_same (rl2.set j (.int _))))
          · cases ed
        · cases ed
      · cases ed
    · cases ed⟩
end
@[simp] theorem sPutOp_r {F : Int → Int → Int} {f g : SE} {k : Nat} {ρ : Rho} : sPutOp k F f g ρ = (match getS ρ k with
  | some (.own (.list l)) => (f ρ).bind fun k' => match k' with
    | .int k' => (atI l k').bind fun x => match x with
      | .int x => (g ρ).bind fun y => match y with
        | .int y => (ixN l.length k').map fun j => .nx (ρ.set k (.own (.list (l.set j (.int (F x y))))))
        | _ => none
      | _ => none
    | _ => none
  | _ => none) := by rw [getS_eq]; rfl
/-! ### lists of ints -/
theorem clean_is (l : List Int) : clean 9 (.list (l.map .int)) = true := by
  show cleanA 8 _ = true
  exact cleanA_map (fun a => rfl) l
theorem int_inj {a b : Int} (h : PyData.int a = .int b) : a = b := by cases h; rfl
theorem oEq_is (l k : List Int) : oEq (.list (l.map .int)) (.list (k.map .int)) = some (.bool (decide (l = k))) := by
  rw [oEq_c (clean_is l) (clean_is k), eqv_dec (clean_is l) (clean_is k) (l = k)]
  simp only [PyData.list.injEq]
  exact ⟨fun h => map_inj int_inj h, fun h => by rw [h]⟩
theorem oNe_is (l k : List Int) : oNe (.list (l.map .int)) (.list (k.map .int)) = some (.bool (!decide (l = k))) := by
  rw [oNe_c (clean_is l) (clean_is k), eqv_dec (clean_is l) (clean_is k) (l = k)]
  simp only [PyData.list.injEq]
  exact ⟨fun h => map_inj int_inj h, fun h => by rw [h]⟩
theorem any_int (i : Int) : ∀ l : List Int, ((l.map PyData.int).any fun z => PyData.eqv z (.int i)) = decide (i ∈ l)
  | [] => rfl
  | a :: r => by
    rw [List.map_cons, List.any_cons, any_int i r]
    by_cases h : a = i
    · subst h; simp [PyData.eqv]
    · have h' : ¬ i = a := fun e => h e.symm
      simp [PyData.eqv, h, h', List.mem_cons]
theorem oIn_is (i : Int) (l : List Int) : oIn (.int i) (.list (l.map .int)) = some (.bool (decide (i ∈ l))) := by
  unfold oIn
  simp only []
  rw [if_pos ⟨rfl, clean_shaped (by decide) (clean_is l)⟩, any_int]
theorem oNotIn_is (i : Int) (l : List Int) : oNotIn (.int i) (.list (l.map .int)) = some (.bool (!decide (i ∈ l))) := by
  unfold oNotIn
  simp only []
  rw [if_pos ⟨rfl, clean_shaped (by decide) (clean_is l)⟩, any_int]
/-! ### a function on data that nothing unfolds -/
theorem box_ex {α : Type} (a : α) : ∃ b, b = a := ⟨a, rfl⟩
noncomputable def box {α : Type} (a : α) : α := Classical.choose (box_ex a)
theorem box_eq {α : Type} (a : α) : box a = a := Classical.choose_spec (box_ex a)
theorem box_rt {n : Nat} {rm : Md} {ms : List Md} {b : SS} {ds : List PyData} {d : PyData} (h1 : ds.length = ms.length) (h2 : b (slotsOf ms ds ++ List.replicate (n - ds.length) .un) = some (.rt d)) : box (runF n rm ms b) ds = some d := by
  rw [box_eq]; exact runF_rt h1 h2
theorem fn_okB {P : Program} {w : World} {K : PySem.W.Frag} {mg : Str → Option Value} {base : Heap} {x qual : Str} {st : Stmt} {f : Addr} {fd : FuncData} {N ps : List Str} {k n : Nat} {ms : List Md} {rm : Md} {b : SS} (F : Fun K x qual st f fd) (S : FnScope N ps (defScope st))
    (hm : ms.length = ps.length) (hn : N.length = n) (am : ArgMd ms)
    (body : ∀ (cdv : Value) (A : Around) (outer : List Env) (s : Shared) (H : Hp) (E : XK), Room k (A.deeper (PyProof.Rows.envOfC qual (defScope st) s.heap.objs.size f cdv)) → DB (cxOf CX0 P w K mg base N qual (defScope st) f cdv A outer s H E).nox rm (defBody st) b) :
    FnOk P w K mg base CX0 (k + 1) f fd ps (spD K rm ms (box (runF n rm ms b))) := by
  rw [box_eq]; exact fn_ok F S hm hn am body
end DV

namespace DV
open PySem L2 PySem.Spec PyProof.Rows
/-! ### a loop over an own list: the list is lent to the loop -/
def Fr.lend (F : Fr) (i : Nat) (a : Addr) (vs : List V) : Fr := ⟨F.g, F.b, fun j => if j = i then some (a, vs) else F.pin j⟩
section
variable {K : PySem.W.Frag} {F : Fr} {H0 G H G' H' : Hp} {ρ ρ' : Rho} {σ σ' : L2.St} {ds : List PyData} {vs : List V} {i : Nat} {a : Addr}
theorem Sok.lend (s : Sok K F H0 G ρ σ H) (h : ρ[i]? = some (.own (.list ds))) (ha : σ[i]? = some (some (.ref a))) (hn : H0 a = none) (hg : G a = none) (hv : H a = some (.lst vs)) (rl : RepA K G ds vs) :
    Sok K (F.lend i a vs) (upd H0 a (.lst vs)) G (ρ.set i (.pin (.list ds))) σ H := by
  have hi : i < ρ.length := (List.getElem?_eq_some_iff.mp h).1
  have own_of : ∀ {j : Nat} {e : PyData}, (ρ.set i (.pin (.list ds)))[j]? = some (.own e) → ρ[j]? = some (.own e) := fun {j e} q => by
    by_cases z : j = i
    · subst z; rw [List.getElem?_set_self hi] at q; cases q
    · rw [List.getElem?_set_ne (Ne.symm z)] at q; exact q
  refine ⟨⟨s.gx.g, fun b w hw => ?_, s.gx.gh, fun b hb => ?_⟩, by rw [List.length_set]; exact s.len, fun j q hj => ?_, fun j k d1 e b hjk h1 h2 h3 h4 => s.apart j k _ _ b hjk (own_of h1) (own_of h2) h3 h4, fun j d hj => ?_, s.base.trans (Ex.new hn), fun j b us hj => ?_⟩
  · by_cases z : b = a
    · subst z; rw [upd_same] at hw; rw [hv]; exact hw
    · rw [upd_ne z] at hw; exact s.gx.h b w hw
  · by_cases z : b = a
    · subst z; exact absurd hg hb
    · rw [upd_ne z]; exact s.gx.nw b hb
  · by_cases z : j = i
    · subst z
      rw [List.getElem?_set_self hi] at hj
      cases hj
      exact .pin
    · rw [List.getElem?_set_ne (Ne.symm z)] at hj
      have q2 := s.slot j q hj
      generalize e : σ[j]?.getD none = w at q2
      cases q2 with
      | un => exact .un
      | val h => exact .val h
      | bor h => exact .bor h
      | scr h => exact .scr h
      | pin => exact .pin
      | own k1 k2 k3 =>
        refine .own ?_ k2 k3
        rw [upd_ne]
        · exact k1
        · rintro rfl
          exact s.apart i j _ _ _ (fun z' => z z'.symm) h hj ha (getD_some e)
  · by_cases z : j = i
    · subst z
      rw [List.getElem?_set_self hi] at hj
      cases hj
      exact ⟨a, vs, ds, if_pos rfl, ha, rfl, rl⟩
    · rw [List.getElem?_set_ne (Ne.symm z)] at hj
      obtain ⟨b, us, es, p1, p2⟩ := s.pins j d hj
      exact ⟨b, us, es, (if_neg z).trans p1, p2⟩
  · by_cases z : j = i
    · subst z
      have : (some (a, vs) : Option (Addr × List V)) = some (b, us) := (if_pos rfl).symm.trans hj
      cases this
      exact upd_same
    · have hj' : F.pin j = some (b, us) := (if_neg z).symm.trans hj
      have hb := s.wf j b us hj'
      rw [upd_ne]
      · exact hb
      · rintro rfl
        rw [hn] at hb; cases hb
theorem Sok.back (s : Sok K F H0 G ρ σ H) (hn : H0 a = none) (hg : G a = none) (rl : RepA K G ds vs) (eg : Ex G G') {d : PyData} (s' : Sok K (F.lend i a vs) (upd H0 a (.lst vs)) G' ρ' σ' H') (h : ρ'[i]? = some (.pin d)) :
    Sok K F H0 G' (ρ'.set i (.own (.list ds))) σ' H' := by
  have hi : i < ρ'.length := (List.getElem?_eq_some_iff.mp h).1
  have hg0 : F.g a = none := s.gx.g.back hg
  have ha : σ'[i]? = some (some (.ref a)) := by
    obtain ⟨b, us, es, p1, p2, _⟩ := s'.pins i d h
    have : (some (a, vs) : Option (Addr × List V)) = some (b, us) := (if_pos rfl).symm.trans p1
    cases this
    exact p2
  have hg' : G' a = none := by
    cases e : G' a with
    | none => rfl
    | some w =>
      rcases s'.gx.nw a (by rw [e]; simp) with z | z
      · exact absurd hg0 z
      · rw [upd_same] at z; cases z
  have hv : H' a = some (.lst vs) := s'.gx.h a _ upd_same
  refine ⟨⟨s'.gx.g, (Ex.new hn).trans s'.gx.h, s'.gx.gh, fun b hb => ?_⟩, by rw [List.length_set]; exact s'.len, fun j q hj => ?_, fun j k d1 e b hjk h1 h2 h3 h4 => ?_, fun j d' hj => ?_, s.base, s.wf⟩
  · rcases s'.gx.nw b hb with z | z
    · exact .inl z
    · by_cases y : b = a
      · subst y; rw [upd_same] at z; cases z
      · rw [upd_ne y] at z; exact .inr z
  · by_cases z : j = i
    · subst z
      rw [List.getElem?_set_self hi] at hj
      cases hj
      rw [ha]
      exact .own hn hg' (.lst hv (rl.mono eg))
    · rw [List.getElem?_set_ne (Ne.symm z)] at hj
      have q2 := s'.slot j q hj
      generalize e : σ'[j]?.getD none = w at q2
      cases q2 with
      | un => exact .un
      | val h => exact .val h
      | bor h => exact .bor h
      | scr h => exact .scr h
      | pin => exact .pin
      | @own d2 c k1 k2 k3 =>
        refine .own ?_ k2 k3
        by_cases y : c = a
        · subst y; rw [upd_same] at k1; cases k1
        · rw [upd_ne y] at k1; exact k1
  · have nota : ∀ {j : Nat} {e : PyData} {b : Addr}, ρ'[j]? = some (.own e) → σ'[j]? = some (some (.ref b)) → b ≠ a := fun {j e b} q q2 => by
      obtain ⟨c, k1, k2, _⟩ := s'.own q
      rw [q2] at k1; cases k1
      rintro rfl
      rw [upd_same] at k2; cases k2
    by_cases z : j = i
    · subst z
      rw [ha] at h3; cases h3
      rw [List.getElem?_set_ne hjk] at h2
      exact nota h2 h4 rfl
    · rw [List.getElem?_set_ne (Ne.symm z)] at h1
      by_cases y : k = i
      · subst y
        rw [ha] at h4; cases h4
        exact nota h1 h3 rfl
      · rw [List.getElem?_set_ne (Ne.symm y)] at h2
        exact s'.apart j k _ _ b hjk h1 h2 h3 h4
  · by_cases z : j = i
    · subst z
      rw [List.getElem?_set_self hi] at hj; cases hj
    · rw [List.getElem?_set_ne (Ne.symm z)] at hj
      obtain ⟨b, us, es, p1, p2⟩ := s'.pins j d' hj
      exact ⟨b, us, es, (if_neg z).symm.trans p1, p2⟩
end
def sForOwn (i : Nat) (g : SG) (b : SS) : SS := fun ρ => match ρ[i]? with
  | some (.own (.list ds)) => (forGo g b ds (ρ.set i (.pin (.list ds)))).bind fun o => match o with
    | .nx ρ' => match ρ'[i]? with
      | some (.pin _) => some (.nx (ρ'.set i (.own (.list ds))))
      | _ => none
    | .rt d => some (.rt d)
    | _ => none
  | _ => none
section
variable {X : Cx} {rm : Md} {tg : Expr} {body : List Stmt} {g : SG} {f : SS} {x : Str} {p1 pos : Pos}
theorem s_forOwn (i : Nat) (hp : PassesOwn (model X.prog X.w) X.A X.env X.xe) (hc : X.calm = true) (hg : DG X tg g) (hb : DB X rm body f) (hrm : rm = .val ∨ rm = .new := by first | exact Or.inl rfl | exact Or.inr rfl)
    (hN : X.N[i]? = some x := by rfl) (hv : Vis X.env.scope x := by first | exact Or.inl rfl | exact Or.inr (Or.inl rfl) | exact Or.inr (Or.inr rfl)) (hd : (x == ("__debug__" : Str)) = false := by decide) (hcd : (x == ("__classdict__" : Str)) = false := by decide)
    (hs : ∀ y, foldedSetIterable (.Name x p1) X.env y = pure y := by intro _; rfl) : DS X rm (.For tg (.Name x p1) body [] pos) (sForOwn i g f) :=
  ⟨(ps_for hp hc (pi_any (pv i hN hv hd hcd)) hg.pg hb.pss hs).imp fun D σ H ⟨G0, H0, G, ρ, o, s, e, q⟩ => by
    unfold sForOwn at e
    split at e
    · rename_i ds h
      obtain ⟨oo, e2, e3⟩ := bind_some e
      obtain ⟨a, ha, hn, hga, ow⟩ := s.own h
      obtain ⟨vs, hv', rl⟩ := own_list ow
      refine ⟨_, ha, .inl ⟨a, rfl, ⟨vs, .inl (.inl hv')⟩, ?_⟩⟩
      have w : WalkD X.K (upd H0 a (.lst vs)) G (Itl X.K a) ds := WalkD.list (fun H2 _ b => .inl (.inl (b a _ upd_same))) rl
      have s1 := s.lend h ha hn hga hv' rl
      let St (i' : Nat) (σi : L2.St) (Hi : Hp) : Prop := ∃ Gi ρi, Ex G Gi ∧ Sok X.K (G0.lend i a vs) (upd H0 a (.lst vs)) Gi ρi σi Hi ∧ i' ≤ ds.length ∧ forGo g f (ds.drop i') ρi = some oo
      -- the end of the loop
      have fin : ∀ ρ' Gi σi Hi, oo = .nx ρ' → Ex G Gi → Sok X.K (G0.lend i a vs) (upd H0 a (.lst vs)) Gi ρ' σi Hi → D.nx σi Hi := fun ρ' Gi σi Hi eo eg si => by
        subst eo
        simp only [] at e3
        split at e3
        · rename_i d hd'
          cases e3
          exact q Gi σi Hi eg (Sok.back s hn hga rl eg si hd')
        · cases e3
      refine ⟨fun i' m σi Hi => m = ds.length - i' ∧ St i' σi Hi, ⟨_, rfl, G, _, Ex.refl _, s1, Nat.zero_le _, e2⟩, ?_⟩
      rintro i' m σi Hi ⟨rfl, Gi, ρi, eg, si, hi, hr⟩
      by_cases hlt : i' < ds.length
      · refine .inr ⟨w.goes i' Gi Hi hlt eg si.gx.gh si.gx.h, St (i' + 1), fun σ' H' p => ⟨_, by omega, rfl, p⟩, fun y H' hy => ?_⟩
        have hd := List.getElem?_eq_getElem hlt
        obtain ⟨G3, gx3, rx⟩ := w.yields i' _ Gi Hi y H' hd eg si.gx.gh si.gx.h hy
        rw [List.drop_eq_getElem_cons hlt] at hr
        obtain ⟨ρ1, e1, hr⟩ := bind_some hr
        obtain ⟨o1, e2', hr⟩ := bind_some hr
        refine ⟨G0.lend i a vs, upd H0 a (.lst vs), G3, ρi, _, ρ1, si.gx' gx3, rx, e1, fun σ2 s2 => ⟨G0.lend i a vs, upd H0 a (.lst vs), G3, ρ1, o1, s2, e2', ?_⟩⟩
        have eg3 := eg.trans gx3.g
        cases o1 with
        | nx ρ' => exact fun G' σ' H' e4 s4 => ⟨G', ρ', eg3.trans e4, s4, hlt, hr⟩
        | ct ρ' => exact fun G' σ' H' e4 s4 => ⟨G', ρ', eg3.trans e4, s4, hlt, hr⟩
        | bk ρ' =>
          exact fun G' σ' H' e4 s4 => fin ρ' G' σ' H' (Option.some.inj hr).symm (eg3.trans e4) s4
        | rt d =>
          cases hr
          cases e3
          exact fun G' H' v gx r => q G' H' v ⟨gx.g, (Ex.new hn).trans gx.h, gx.gh, fun b hb => (gx.nw b hb).imp id fun z => by
            by_cases y : b = a
            · subst y; rw [upd_same] at z; cases z
            · rw [upd_ne y] at z; exact z⟩ (by
              rcases hrm with rfl | rfl
              · exact r
              · exact RM.start (Ex.new hn) r)
      · have ei : i' = ds.length := by omega
        subst ei
        rw [List.drop_length] at hr
        cases hr
        exact .inl ⟨w.stops Gi Hi eg si.gx.gh si.gx.h, fin ρi Gi σi Hi rfl eg si⟩
    · cases e⟩
end
@[simp] theorem sForOwn_r {g : SG} {b : SS} {k : Nat} {ρ : Rho} : sForOwn k g b ρ = (match getS ρ k with
  | some (.own (.list ds)) => (forGo g b ds (ρ.set k (.pin (.list ds)))).bind fun o => match o with
    | .nx ρ' => match getS ρ' k with
      | some (.pin _) => some (.nx (ρ'.set k (.own (.list ds))))
      | _ => none
    | .rt d => some (.rt d)
    | _ => none
  | _ => none) := by
  rw [getS_eq]; unfold sForOwn
  cases ρ[k]? with
  | none => rfl
  | some s => cases s with
    | own d => cases d with
      | list ds =>
        simp only []
        congr 1; funext o
        cases o with
        | nx ρ' => simp only [getS_eq]
        | _ => rfl
      | _ => rfl
    | _ => rfl
theorem sForOwn_eq {g : SG} {b : SS} {k : Nat} {ρ ρ' : Rho} {ds : List PyData} {d : PyData} (h : getS ρ k = some (.own (.list ds))) (e : forGo g b ds (ρ.set k (.pin (.list ds))) = some (.nx ρ')) (h2 : getS ρ' k = some (.pin d)) : sForOwn k g b ρ = some (.nx (ρ'.set k (.own (.list ds)))) := by
  rw [sForOwn_r, h]
  simp only []
  rw [e]
  simp only [Option.bind_some]
  rw [h2]
end DV

namespace DV
open PySem L2 PySem.Spec PyProof.Rows
section
variable {X : Cx} {m : Md} {a b : Expr} {f g : SE} {pos apos : Pos} {name : Str} {id : String}
/-! ### methods of texts with one argument -/
def MtF (K : PySem.W.Frag) (m : Md) (r : V → List V → Hp → VK → Prop) (F : PyData → PyData → Option PyData) : Prop :=
  ∀ (G H : Hp) (d1 d2 d : PyData) (x y : V) (Q : VK), Ex G H → RepB K G H d1 x → RepB K G H d2 y → F d1 d2 = some d → (∀ G' H' v, Gx G H G' H' → (∀ H0, RM K H0 H m G' H' d v) → Q v H') → r x [y] H Q
theorem d_m1 {r : V → List V → Hp → VK → Prop} {F : PyData → PyData → Option PyData} (slot : PySem.Slot "str" name id) (ty : typeOf (.builtin id) = pure (.type "method_descriptor")) (rule : MtR X id r) (hF : MtF X.K m r F) (hS : ∀ d1 d2 d, F d1 d2 = some d → ∃ z, d1 = .str z)
    (ha : DX X .bor a f) (hb : DX X .bor b g) (hs : starEach [b] X.env = [(false, eval b X.env)] := by rfl) (hbase : attributeBase a name X.env (eval a X.env) = eval a X.env := by rfl) (hline : (apos.endLine == pos.line) = true := by rfl) :
    DX X m (.Call (.Attribute a name apos) [b] [] pos) (eOp F f g) :=
  ⟨(pe_m1 slot ty rule ha.pe hb.pe hs hbase hline).imp fun σ H Q ⟨G0, H0, G, ρ, d, s, ed, q⟩ => by
    obtain ⟨d1, e1, ed⟩ := bind_some ed
    obtain ⟨d2, e2, ed⟩ := bind_some ed
    refine ⟨G0, H0, G, ρ, d1, s, e1, fun G1 H1 x gx1 r1 => ?_⟩
    obtain ⟨z, rfl⟩ := hS _ _ _ ed
    refine ⟨⟨z, RepB.str r1⟩, G0, H0, G1, ρ, d2, s.gx' gx1, e2, fun G2 H2 y gx2 r2 => ?_⟩
    exact hF G2 H2 _ d2 d x y Q gx2.gh (RepB.mono gx2.g gx2.h r1) r2 ed fun G' H' v gx3 r3 => q G' H' v ((gx1.trans gx2).trans gx3) ((r3 H0).start (gx1.trans gx2).h)⟩
def oSplit (a b : PyData) : Option PyData := match a, b with
  | .str x, .str y => if (y.length == 0) = false ∧ x.length + 2 ≤ sizeLine then some (.list ((Txt.split x y).map .str)) else none
  | _, _ => none
theorem strs_A {K : PySem.W.Frag} {G : Hp} : ∀ l : List Str, RepA K G (l.map .str) (l.map V.str)
  | [] => .nil
  | x :: l => .cons (.str x) (strs_A l)
theorem mtf_split {K : PySem.W.Frag} : MtF K .new (fun x xs H Q => ∃ a b, x = .str a ∧ xs = [.str b] ∧ (b.length == 0) = false ∧ a.length + 2 ≤ sizeLine ∧ rNewStrs (Txt.split a b) H Q) oSplit := fun G H d1 d2 d x y Q e r1 r2 h q => by
  unfold oSplit at h
  split at h
  · obtain ⟨⟨c1, c2⟩, rfl⟩ := if_some h
    cases r1.str
    cases r2.str
    refine ⟨_, _, rfl, rfl, c1, c2, fun p hp => q G _ _ (Gx.mine e hp) fun H0 => ⟨p, rfl, hp, e.back hp, .lst upd_same (strs_A _)⟩⟩
  · cases h
theorem s_split {d1 d2 d : PyData} (h : oSplit d1 d2 = some d) : ∃ z, d1 = .str z := by
  unfold oSplit at h
  split at h
  · exact ⟨_, rfl⟩
  · cases h
def oCount (a b : PyData) : Option PyData := match a, b with
  | .str x, .str y => some (.int (Txt.count x y))
  | _, _ => none
theorem mtf_count {K : PySem.W.Frag} : MtF K .val (fun x xs H Q => ∃ a b, x = .str a ∧ xs = [.str b] ∧ Q (.int (Txt.count a b)) H) oCount := fun G H d1 d2 d x y Q e r1 r2 h q => by
  unfold oCount at h
  split at h
  · cases h
    cases r1.str
    cases r2.str
    exact ⟨_, _, rfl, rfl, q G H _ (Gx.refl e) fun _ => .int _⟩
  · cases h
theorem s_count {d1 d2 d : PyData} (h : oCount d1 d2 = some d) : ∃ z, d1 = .str z := by
  unfold oCount at h
  split at h
  · exact ⟨_, rfl⟩
  · cases h
theorem d_split (ha : DX X .bor a f) (hb : DX X .bor b g) (hs : starEach [b] X.env = [(false, eval b X.env)] := by rfl) (hbase : attributeBase a "split" X.env (eval a X.env) = eval a X.env := by rfl) (hline : (apos.endLine == pos.line) = true := by rfl) :
    DX X .new (.Call (.Attribute a "split" apos) [b] [] pos) (eOp oSplit f g) := d_m1 F.slot_str_split F.type_str_split mt_split mtf_split (fun _ _ _ => s_split) ha hb hs hbase hline
theorem d_count (ha : DX X .bor a f) (hb : DX X .bor b g) (hs : starEach [b] X.env = [(false, eval b X.env)] := by rfl) (hbase : attributeBase a "count" X.env (eval a X.env) = eval a X.env := by rfl) (hline : (apos.endLine == pos.line) = true := by rfl) :
    DX X .val (.Call (.Attribute a "count" apos) [b] [] pos) (eOp oCount f g) := d_m1 F.slot_str_count F.type_str_count mt_count mtf_count (fun _ _ _ => s_count) ha hb hs hbase hline
end
/-! ### x.extend(new list) -/
section
variable {X : Cx} {rm : Md} {a : Expr} {f : SE} {pos p1 cpos apos : Pos} {x : Str}
theorem s_ext (i : Nat) (ha : DX X .new a f) (hN : X.N[i]? = some x := by rfl) (hv : Vis X.env.scope x := by first | exact Or.inl rfl | exact Or.inr (Or.inl rfl) | exact Or.inr (Or.inr rfl)) (hd : (x == ("__debug__" : Str)) = false := by decide)
    (hcd : (x == ("__classdict__" : Str)) = false := by decide)
    (hbase : attributeBase (.Name x p1) "extend" X.env (eval (.Name x p1) X.env) = eval (.Name x p1) X.env := by rfl)
    (hfew : ((backTo cpos (starEach (a :: []) X.env)).all (fun x => !x.1) && (backToKw cpos (keywordEach [] X.env)).all (fun x => x.1.isSome)
      && decide ((a :: []).length + ([] : List Keyword).length + (if ([] : List Keyword).isEmpty then 0 else 1) < 30)) = true := by rfl)
    (hline : (apos.endLine == cpos.line) = true := by rfl) (hs : starEach (a :: []) X.env = (false, eval a X.env) :: starEach [] X.env := by rfl) (hplain : (backTo cpos (starEach [] X.env)).any (·.1) = false := by rfl)
    (hsw : swapsWith (.Call (.Attribute (.Name x p1) "extend" apos) [a] [] cpos) none pos.line X.env = pure false := by rfl) :
    DS X rm (.Expr (.Call (.Attribute (.Name x p1) "extend" apos) [a] [] cpos) pos) (sMut fExt i (aCons f aNil)) :=
  ⟨(ps_expr (pe_bm PySem.F.plainAttrs_list PySem.F.slot_list_extend PySem.F.type_list_extend mt_extend (pv i hN hv hd hcd) (a_cons ha a_nil hs).pa hbase hfew hline hs hplain) hsw).imp
    fun D σ H ⟨G0, H0, G, ρ, o, s, e, q⟩ => by
    unfold sMut at e
    split at e
    · rename_i l h
      obtain ⟨ds, e1, e⟩ := bind_some e
      obtain ⟨d, e2, e⟩ := bind_some e
      cases e
      obtain ⟨p, h1, h2, h3, h4⟩ := s.own h
      obtain ⟨vs, hv, _⟩ := own_list h4
      refine ⟨_, h1, .inl ⟨rfl, _, SqL.of hv⟩, G0, H0, G, ρ, ds, s, e1, fun G1 H1 us gx ra => ?_⟩
      have s1 := s.gx' gx
      obtain ⟨p', k1, k2, k3, k4⟩ := s1.own h
      rw [h1] at k1; cases k1
      obtain ⟨vs', hv', rl⟩ := own_list k4
      unfold fExt at e2
      split at e2
      · rename_i k
        obtain ⟨hl, rfl⟩ := if_some e2
        cases ra with
        | cons r1 t =>
          cases t
          obtain ⟨b, rfl, hb, gb, ob⟩ := (show ∃ b, _ = V.ref b ∧ H b = none ∧ G1 b = none ∧ Own X.K G1 H1 b (.list k) from r1)
          obtain ⟨zs, hz, rz⟩ := own_list ob
          refine ⟨p, b, vs', zs, rfl, rfl, hv', hz, by rw [← rl.len, ← rz.len]; exact hl, ?_⟩
          exact q G1 σ _ gx.g (s1.write h h1 k2 k3 (.lst upd_same (rl.app rz)))
      · cases e2
    · cases e⟩
end
theorem fExt_eq {l k : List PyData} (h : l.length + k.length ≤ sizeLine) : fExt l [.list k] = some (.list (l ++ k)) := if_pos h
end DV

namespace DV
open PySem L2 PySem.Spec PyProof.Rows
/-! ### methods of texts with more arguments -/
def eBm (F : PyData → List PyData → Option PyData) (f : SE) (r : SA) : SE := fun ρ => (f ρ).bind fun x => (r ρ).bind fun ds => F x ds
@[simp] theorem eBm_r {F : PyData → List PyData → Option PyData} {f : SE} {r : SA} {ρ : Rho} : eBm F f r ρ = (f ρ).bind fun x => (r ρ).bind fun ds => F x ds := rfl
section
variable {X : Cx} {m : Md} {a e : Expr} {es : List Expr} {f : SE} {t : SA} {ms : List Md} {pos apos : Pos} {name : Str} {id : String}
def MtF2 (K : PySem.W.Frag) (m : Md) (ms : List Md) (r : V → List V → Hp → VK → Prop) (F : PyData → List PyData → Option PyData) : Prop :=
  ∀ (G H0 Hs H : Hp) (d1 d : PyData) (ds : List PyData) (x : V) (xs : List V) (Q : VK), Ex G H → RepB K G H d1 x → RMs K H0 Hs G H ms ds xs → F d1 ds = some d → (∀ G' H' v, Gx G H G' H' → (∀ H0, RM K H0 H m G' H' d v) → Q v H') → r x xs H Q
theorem d_ms {r : V → List V → Hp → VK → Prop} {F : PyData → List PyData → Option PyData} (slot : PySem.Slot "str" name id) (ty : typeOf (.builtin id) = pure (.type "method_descriptor")) (rule : MtR X id r) (hF : MtF2 X.K m ms r F) (hS : ∀ d1 d2 d, F d1 d2 = some d → ∃ z, d1 = .str z)
    (ha : DX X .bor a f) (hb : DA X ms (e :: es) t)
    (hbase : attributeBase a name X.env (eval a X.env) = eval a X.env := by rfl)
    (hfew : ((backTo pos (starEach (e :: es) X.env)).all (fun x => !x.1) && (backToKw pos (keywordEach [] X.env)).all (fun x => x.1.isSome)
      && decide ((e :: es).length + ([] : List Keyword).length + (if ([] : List Keyword).isEmpty then 0 else 1) < 30)) = true := by rfl)
    (hline : (apos.endLine == pos.line) = true := by rfl) (hs : starEach (e :: es) X.env = (false, eval e X.env) :: starEach es X.env := by rfl) (hplain : (backTo pos (starEach es X.env)).any (·.1) = false := by rfl) :
    DX X m (.Call (.Attribute a name apos) (e :: es) [] pos) (eBm F f t) :=
  ⟨(pe_bm PySem.F.plainAttrs_str slot ty rule ha.pe hb.pa hbase hfew hline hs hplain).imp fun σ H Q ⟨G0, H0, G, ρ, d, s, ed, q⟩ => by
    obtain ⟨d1, e1, ed⟩ := bind_some ed
    obtain ⟨ds, e2, ed⟩ := bind_some ed
    refine ⟨G0, H0, G, ρ, d1, s, e1, fun G1 H1 x gx1 r1 => ?_⟩
    obtain ⟨z, rfl⟩ := hS _ _ _ ed
    refine ⟨?_, G0, H0, G1, ρ, ds, s.gx' gx1, e2, fun G2 H2 ys gx2 r2 => ?_⟩
    · cases RepB.str r1
      exact (rfl : ("str" : String) = "str")
    · exact hF G2 _ _ H2 _ d ds x ys Q gx2.gh (RepB.mono gx2.g gx2.h r1) r2 ed fun G' H' v gx3 r3 => q G' H' v ((gx1.trans gx2).trans gx3) ((r3 H0).start (gx1.trans gx2).h)⟩
def oFind3 (a : PyData) (ds : List PyData) : Option PyData := match a, ds with
  | .str x, [.str y, .int i] => some (.int (Txt.find3 x y i))
  | _, _ => none
theorem mtf_find3 {K : PySem.W.Frag} : MtF2 K .val [.bor, .val] (fun x xs H Q => ∃ (a b : Str) (i : Int), x = .str a ∧ xs = [.str b, .int i] ∧ Q (.int (Txt.find3 a b i)) H) oFind3 := fun G H0 Hs H d1 d ds x xs Q e r1 r2 h q => by
  unfold oFind3 at h
  split at h
  · cases h
    cases r1.str
    cases r2 with
    | cons h1 t =>
      cases t with
      | cons h2 t =>
        cases t
        cases (RepB.str h1)
        cases (show Rep K G (.int _) _ from h2)
        exact ⟨_, _, _, rfl, rfl, q G H _ (Gx.refl e) fun _ => .int _⟩
  · cases h
theorem s_find3 {d1 : PyData} {d2 : List PyData} {d : PyData} (h : oFind3 d1 d2 = some d) : ∃ z, d1 = .str z := by
  unfold oFind3 at h
  split at h
  · exact ⟨_, rfl⟩
  · cases h
end
end DV

namespace DV
open PySem L2 PySem.Spec PyProof.Rows
/-! ### calls with keywords -/
theorem RMs.app {K : PySem.W.Frag} {H0 Hs G H : Hp} : ∀ {m1 m2 : List Md} {d1 d2 : List PyData} {v1 v2 : List V}, RMs K H0 Hs G H m1 d1 v1 → RMs K H0 Hs G H m2 d2 v2 → RMs K H0 Hs G H (m1 ++ m2) (d1 ++ d2) (v1 ++ v2)
  | _, _, _, _, _, _, .nil, t => t
  | _, _, _, _, _, _, .cons h r, t => .cons h (RMs.app r t)
structure DK (X : Cx) (ms : List Md) (kws : List Keyword) (f : SA) : Prop where
  pk : PK X kws (tA X.K ms f)
section
variable {X : Cx} {m : Md} {ms ms1 ms2 ms3 : List Md} {e : Expr} {es : List Expr} {kws : List Keyword} {f : SE} {r r2 : SA} {nm : Option Str} {kpos pos p : Pos} {x : Str} {k n : Nat} {ps ks : List Str} {rm : Md} {Fn : List PyData → Option PyData} {dv : List V} {dd : List PyData}
theorem k_nil : DK X [] [] aNil := ⟨⟨fun pos pins s σ H Q I h => pk_nil.run pos pins s σ H Q I (by
  obtain ⟨G0, H0, G, ρ, ds, s, e, q⟩ := h
  cases e
  exact q G H [] (Gx.refl s.gx.gh) .nil)⟩⟩
theorem k_cons (ha : DX X m e f) (hr : DK X ms kws r) : DK X (m :: ms) (⟨nm, e, kpos⟩ :: kws) (aCons f r) := ⟨⟨fun pos pins s σ H Q I h => (pk_cons ha.pe hr.pk).run pos pins s σ H Q I (by
  obtain ⟨G0, H0, G, ρ, ds, s, ed, q⟩ := h
  obtain ⟨d, e1, ed⟩ := bind_some ed
  obtain ⟨ds', e2, ed⟩ := bind_some ed
  cases ed
  refine ⟨G0, H0, G, ρ, d, s, e1, fun G1 H1 v gx1 r1 => ⟨G0, H0, G1, ρ, ds', s.gx' gx1, e2, fun G2 H2 vs gx2 r2 => q G2 H2 (v :: vs) (gx1.trans gx2) (.cons (r1.mono gx2) (r2.start gx1.h))⟩⟩)⟩⟩
/-- a def that is called with keywords: n values by place, keywords ks behind them, then the defaults dv -/
def FnKw (P : Program) (w : World) (K : PySem.W.Frag) (mg : Str → Option Value) (base : Heap) (x : Str) (ps : List Str) (k : Nat) (rm : Md) (ms : List Md) (F : List PyData → Option PyData) (n : Nat) (ks : List Str) (dv : List V) : Prop :=
  ∃ (f : Addr) (fd : FuncData) (g : List Value → List Value → List Value), FnOk P w K mg base CX0 k f fd ps (spD K rm ms F) ∧ mg x = some (.ref f) ∧ PySem.W.keepIn K (.ref f) = true ∧ KBn K fd ps n ks g (fun vs zs => vs ++ (zs ++ dv))
def eCallK (F : List PyData → Option PyData) (r r2 : SA) (dd : List PyData) : SE := fun ρ => (r ρ).bind fun a => (r2 ρ).bind fun b => F (a ++ (b ++ dd))
@[simp] theorem eCallK_r {F : List PyData → Option PyData} {ρ : Rho} : eCallK F r r2 dd ρ = (r ρ).bind fun a => (r2 ρ).bind fun b => F (a ++ (b ++ dd)) := rfl
theorem d_fnK (F : FnKw X.prog X.w X.K X.mg X.base x ps k rm (ms1 ++ (ms2 ++ ms3)) Fn n ks dv) (hr : Room k X.A) (ha : DA X ms1 (e :: es) r) (hkw : DK X ms2 kws r2) (hd : ∀ (H0 Hs G H : Hp), RMs X.K H0 Hs G H ms3 dd dv) (am : ArgMd (ms1 ++ (ms2 ++ ms3))) (hn : ms1.length = n) (hk2 : ms2.length = ks.length)
    (hrm : rm = .val ∨ rm = .new := by first | exact Or.inl rfl | exact Or.inr rfl) (hg : Gl X x := by rfl) (hall : (backToKw pos (keywordEach kws X.env)).all (·.1.isSome) = true := by rfl) (hks : (backToKw pos (keywordEach kws X.env)).filterMap (·.1) = ks := by rfl)
    (hdb : (x == ("__debug__" : Str)) = false := by decide) (he : starEach (e :: es) X.env = (false, eval e X.env) :: starEach es X.env := by rfl)
    (hpl : ((backTo pos (starEach (e :: es) X.env)).any (·.1) || (backToKw pos (keywordEach kws X.env)).any (·.1.isNone)) = false := by rfl) :
    DX X rm (.Call (.Name x p) (e :: es) kws pos) (eCallK Fn r r2 dd) := by
  obtain ⟨f, fd, g, F, hm, hk, hb⟩ := F
  refine ⟨(pe_callN F hr hg hm hk hb pass0 ha.pa hkw.pk hall hks hdb he hpl).imp fun σ H Q ⟨G0, H0, G, ρ, d, s, ed, q⟩ => ?_⟩
  obtain ⟨d1, e1, ed⟩ := bind_some ed
  obtain ⟨d2, e2, ed⟩ := bind_some ed
  refine ⟨G0, H0, G, ρ, d1, s, e1, fun G1 H1 vs gx1 r1 => ⟨G0, H0, G1, ρ, d2, s.gx' gx1, e2, fun G2 H2 zs gx2 r2 => ⟨r1.len.2.trans hn, r2.len.2.trans hk2, ?_⟩⟩⟩
  have ra := ((r1.mono gx2).start (Ex.refl _)).app ((r2.start gx1.h).app (hd H0 H G2 H2))
  refine ⟨ra.len.2, G2, _, d, gx2.gh, ra.call am, ed, fun G3 H3 v gx3 r3 => q G3 H3 v ((gx1.trans gx2).trans gx3) ?_⟩
  rcases hrm with rfl | rfl
  · exact r3
  · exact RM.start (gx1.trans gx2).h r3
end
/-! ### a list that is given away: return f(.., xs, ..) -/
def slotsM : List Md → List PyData → Rho
  | .new :: ms, d :: ds => .own d :: slotsM ms ds
  | _ :: ms, d :: ds => .val d :: slotsM ms ds
  | _, _ => []
def runM (n : Nat) (rm : Md) (ms : List Md) (f : SS) : List PyData → Option PyData := fun ds =>
  if ds.length = ms.length then (f (slotsM ms ds ++ List.replicate (n - ds.length) .un)).bind fun o => match o, rm with
    | .rt d, _ => some d
    | .nx _, .val => some .none
    | _, _ => none
  else none
def spM (K : PySem.W.Frag) (rm : Md) (ms : List Md) (F : List PyData → Option PyData) : Sp := fun vs H Q _ =>
  vs.length = ms.length ∧ ∃ G H0 ds d, Gx G H0 G H ∧ RMs K H0 H0 G H ms ds vs ∧ F ds = some d ∧ ∀ G' H' v, Gx G H0 G' H' → RM K H0 H0 rm G' H' d v → Q v H'
def ArgMv (ms : List Md) : Prop := ∀ m ∈ ms, m = .val ∨ m = .new
def oneNew : List Md → Bool
  | [] => true
  | .new :: ms => ms.all (· != Md.new)
  | _ :: ms => oneNew ms
theorem slotsM_ok {K : PySem.W.Frag} {B H0 G H : Hp} : ∀ {ms : List Md} {ds : List PyData} {vs : List V}, ArgMv ms → RMs K H0 H0 G H ms ds vs → (slotsM ms ds).length = vs.length ∧
    (∀ (i : Nat) (s : Slot), (slotsM ms ds)[i]? = some s → SlotOk K B H0 G H s ((vs.map some)[i]?.getD none) ∧ (∀ d, s ≠ .pin d) ∧ ((∃ d, s = .own d) → ms[i]? = some Md.new))
  | _, _, _, _, .nil => ⟨rfl, fun i s h => by simp [slotsM] at h⟩
  | m :: ms, d :: ds, v :: vs, am, .cons h t => by
    obtain ⟨l, q⟩ := slotsM_ok (B := B) (fun m hm => am m (List.mem_cons_of_mem _ hm)) t
    rcases am m List.mem_cons_self with rfl | rfl
    · refine ⟨congrArg (· + 1) l, fun i s hs => ?_⟩
      cases i with
      | zero =>
        cases hs
        exact ⟨.val h, (fun d e => by cases e), fun ⟨d, e⟩ => by cases e⟩
      | succ i => exact q i s hs
    · refine ⟨congrArg (· + 1) l, fun i s hs => ?_⟩
      cases i with
      | zero =>
        cases hs
        obtain ⟨p, rfl, h1, h2, h3⟩ := h
        exact ⟨.own h1 h2 h3, (fun d e => by cases e), fun _ => rfl⟩
      | succ i => exact q i s hs
theorem oneNew_at : ∀ {ms : List Md}, oneNew ms = true → ∀ i j : Nat, ms[i]? = some Md.new → ms[j]? = some Md.new → i = j
  | [], _, i, j, h, _ => by simp at h
  | m :: ms, ho, i, j, hi, hj => by
    have no : (ms.all (· != Md.new)) = true → ∀ k, ms[k]? ≠ some Md.new := fun h k hk => by
      have := (List.all_eq_true.mp h) _ (List.mem_of_getElem? hk)
      simp at this
    have key : m = Md.new ∨ m ≠ Md.new := by by_cases h : m = Md.new <;> simp [h]
    rcases key with rfl | hm
    · have ho : (ms.all (· != Md.new)) = true := ho
      cases i with
      | zero => cases j with
        | zero => rfl
        | succ j => exact absurd (by simpa using hj) (no ho j)
      | succ i => exact absurd (by simpa using hi) (no ho i)
    · have ho : oneNew ms = true := by cases m <;> first | exact ho | exact absurd rfl hm
      cases i with
      | zero => exact absurd (by simpa using hi) hm
      | succ i => cases j with
        | zero => exact absurd (by simpa using hj) hm
        | succ j => exact congrArg (· + 1) (oneNew_at ho i j (by simpa using hi) (by simpa using hj))
theorem fn_okM0 {P : Program} {w : World} {K : PySem.W.Frag} {mg : Str → Option Value} {base : Heap} {x qual : Str} {st : Stmt} {f : Addr} {fd : FuncData} {N ps : List Str} {k n : Nat} {ms : List Md} {rm : Md} {b : SS} (F : Fun K x qual st f fd) (S : FnScope N ps (defScope st))
    (hm : ms.length = ps.length) (hn : N.length = n) (am : ArgMv ms) (one : oneNew ms = true)
    (body : ∀ (cdv : Value) (A : Around) (outer : List Env) (s : Shared) (H : Hp) (E : XK), Room k (A.deeper (PyProof.Rows.envOfC qual (defScope st) s.heap.objs.size f cdv)) → DB (cxOf CX0 P w K mg base N qual (defScope st) f cdv A outer s H E).nox rm (defBody st) b) :
    FnOk P w K mg base CX0 (k + 1) f fd ps (spM K rm ms (runM n rm ms b)) := by
  subst hn
  refine F.ok S (fun vs H Q E h => h.1.trans hm) fun cdv A outer s H vs Q E hr h => ?_
  obtain ⟨hl, G, H0, ds, d, gx, ra, hF, q⟩ := h
  refine ⟨_, (body cdv A outer s H E hr).pss, ?_⟩
  obtain ⟨l1, so⟩ := slotsM_ok (B := H0) am ra
  have hpl : ps.length ≤ N.length := by have := congrArg List.length S.pre; rw [List.length_take] at this; omega
  obtain ⟨hl2, hF⟩ := ite_some hF
  obtain ⟨o, e1, e2⟩ := bind_some hF
  have dv : ds.length = vs.length := hl2.trans hl.symm
  have noOwn : ∀ (i : Nat) (s : Slot), (slotsM ms ds ++ List.replicate (N.length - ds.length) .un)[i]? = some s → (∃ d, s = .own d) → ms[i]? = some Md.new := fun i s hs ho => by
    by_cases hi : i < vs.length
    · rw [List.getElem?_append_left (by rw [l1]; exact hi)] at hs
      exact (so i s hs).2.2 ho
    · rw [List.getElem?_append_right (by rw [l1]; omega), List.getElem?_replicate] at hs
      obtain ⟨d, rfl⟩ := ho
      split at hs <;> cases hs
  refine ⟨⟨G, H0, fun _ => none⟩, H0, G, _, o, ⟨gx, ?_, fun i t ht => ?_, fun i j d1 d2 a hij h1 h2 => ?_, fun i d h1 => ?_, Ex.refl _, fun i a vs h => (by cases h)⟩, e1, ?_⟩
  · unfold L2.start
    rw [List.length_append, List.length_append, List.length_map, List.length_replicate, List.length_replicate, l1, dv]
  · unfold L2.start
    by_cases hi : i < vs.length
    · rw [List.getElem?_append_left (by rw [l1]; exact hi)] at ht
      rw [List.getElem?_append_left (by simpa using hi)]
      exact (so i t ht).1
    · rw [List.getElem?_append_right (by rw [l1]; omega), List.getElem?_replicate] at ht
      split at ht
      · cases ht; exact .un
      · cases ht
  · exact absurd (oneNew_at one i j (noOwn i _ h1 ⟨_, rfl⟩) (noOwn j _ h2 ⟨_, rfl⟩)) hij
  · exfalso
    by_cases hi : i < vs.length
    · rw [List.getElem?_append_left (by rw [l1]; exact hi)] at h1
      exact (so i _ h1).2.1 _ rfl
    · rw [List.getElem?_append_right (by rw [l1]; omega), List.getElem?_replicate] at h1
      split at h1 <;> cases h1
  · cases o with
    | rt d' =>
      have e3 : d' = d := by cases rm <;> exact Option.some.inj e2
      subst e3
      exact fun G' H' v gx r => q G' H' v gx r
    | nx ρ' =>
      cases rm with
      | val =>
        have e3 : PyData.none = d := Option.some.inj e2
        subst e3
        exact fun G' σ' H' _ s' => q G' H' .non s'.gx .non
      | _ => cases e2
    | bk _ => cases rm <;> cases e2
    | ct _ => cases rm <;> cases e2
theorem fn_okM {P : Program} {w : World} {K : PySem.W.Frag} {mg : Str → Option Value} {base : Heap} {x qual : Str} {st : Stmt} {f : Addr} {fd : FuncData} {N ps : List Str} {k n : Nat} {ms : List Md} {rm : Md} {b : SS} (F : Fun K x qual st f fd) (S : FnScope N ps (defScope st))
    (hm : ms.length = ps.length) (hn : N.length = n) (am : ArgMv ms) (one : oneNew ms = true)
    (body : ∀ (cdv : Value) (A : Around) (outer : List Env) (s : Shared) (H : Hp) (E : XK), Room k (A.deeper (PyProof.Rows.envOfC qual (defScope st) s.heap.objs.size f cdv)) → DB (cxOf CX0 P w K mg base N qual (defScope st) f cdv A outer s H E).nox rm (defBody st) b) :
    FnOk P w K mg base CX0 (k + 1) f fd ps (spM K rm ms (box (runM n rm ms b))) := by
  rw [box_eq]; exact fn_okM0 F S hm hn am one body
theorem runM_rt {n : Nat} {rm : Md} {ms : List Md} {ds : List PyData} {f : SS} {d : PyData} (hl : ds.length = ms.length) (h : f (slotsM ms ds ++ List.replicate (n - ds.length) .un) = some (.rt d)) : runM n rm ms f ds = some d := by
  unfold runM
  rw [if_pos hl, h]
  cases rm <;> rfl
theorem boxM_rt {n : Nat} {rm : Md} {ms : List Md} {b : SS} {ds : List PyData} {d : PyData} (h1 : ds.length = ms.length) (h2 : b (slotsM ms ds ++ List.replicate (n - ds.length) .un) = some (.rt d)) : box (runM n rm ms b) ds = some d := by
  rw [box_eq]; exact runM_rt h1 h2
theorem mv_nil : ArgMv [] := fun m hm => absurd hm List.not_mem_nil
theorem mv_val {ms : List Md} (h : ArgMv ms) : ArgMv (.val :: ms) := fun m hm => (List.mem_cons.mp hm).elim (fun e => .inl e) (h m)
theorem mv_new {ms : List Md} (h : ArgMv ms) : ArgMv (.new :: ms) := fun m hm => (List.mem_cons.mp hm).elim (fun e => .inr e) (h m)
/-- arguments, own lists among them -/
def tAm (K : PySem.W.Frag) (ms : List Md) (f : SA) : TA := fun σ H Q => ∃ G0 H0 G ρ ds, Sok K G0 H0 G ρ σ H ∧ f ρ = some ds ∧ ∀ G' H' vs, Gx G H G' H' → RMs K H0 H0 G' H' ms ds vs → Q vs H'
structure DAm (X : Cx) (ms : List Md) (es : List Expr) (f : SA) : Prop where
  pa : PA X es (tAm X.K ms f)
def eM (i : Nat) : SE := fun ρ => match ρ[i]? with
  | some (.own d) => some d
  | _ => none
@[simp] theorem eM_0 {d : PyData} {ρ : Rho} : eM 0 (.own d :: ρ) = some d := rfl
@[simp] theorem eM_s {s : Slot} {ρ : Rho} {k : Nat} : eM (k + 1) (s :: ρ) = eM k ρ := rfl
section
variable {X : Cx} {rm m : Md} {ms : List Md} {e : Expr} {es : List Expr} {f : SE} {r : SA} {pos p : Pos} {x y : Str} {k : Nat} {ps : List Str} {Fn : List PyData → Option PyData}
theorem am0 : DAm X [] [] aNil := ⟨(a_nil (X := X)).pa.imp fun σ H Q ⟨G0, H0, G, ρ, ds, s, e, q⟩ => ⟨G0, H0, G, ρ, ds, s, e, fun G' H' vs gx ra => q G' H' vs gx (ra.start (s.gx.h))⟩⟩
theorem am_c (h : DX X m e f) (hr : DAm X ms es r) (hs : starEach (e :: es) X.env = (false, eval e X.env) :: starEach es X.env := by rfl) : DAm X (m :: ms) (e :: es) (aCons f r) :=
  ⟨(pa_cons h.pe hr.pa hs).imp fun σ H Q ⟨G0, H0, G, ρ, ds, s, ed, q⟩ => by
    obtain ⟨d, e1, ed⟩ := bind_some ed
    obtain ⟨ds', e2, ed⟩ := bind_some ed
    cases ed
    exact ⟨G0, H0, G, ρ, d, s, e1, fun G1 H1 v gx1 r1 => ⟨G0, H0, G1, ρ, ds', s.gx' gx1, e2, fun G2 H2 vs gx2 r2 => q G2 H2 (v :: vs) (gx1.trans gx2) (.cons ((r1.start s.gx.h).mono gx2) r2)⟩⟩⟩
theorem am_m (i : Nat) {pos' : Pos} (hr : DAm X ms es r) (hN : X.N[i]? = some y := by rfl) (hv : Vis X.env.scope y := by first | exact Or.inl rfl | exact Or.inr (Or.inl rfl) | exact Or.inr (Or.inr rfl)) (hd : (y == ("__debug__" : Str)) = false := by decide)
    (hcd : (y == ("__classdict__" : Str)) = false := by decide) (hs : starEach (.Name y pos' :: es) X.env = (false, eval (.Name y pos') X.env) :: starEach es X.env := by rfl) : DAm X (.new :: ms) (.Name y pos' :: es) (aCons (eM i) r) :=
  ⟨(pa_cons (pe_var hN hv hd hcd) hr.pa hs).imp fun σ H Q ⟨G0, H0, G, ρ, ds, s, ed, q⟩ => by
    obtain ⟨d, e1, ed⟩ := bind_some ed
    obtain ⟨ds', e2, ed⟩ := bind_some ed
    cases ed
    unfold eM at e1
    split at e1
    · cases e1
      rename_i h
      obtain ⟨a, h1, h2, h3, h4⟩ := s.own h
      refine ⟨_, h1, G0, H0, G, ρ, ds', s, e2, fun G2 H2 vs gx2 r2 => q G2 H2 _ gx2 (.cons ?_ r2)⟩
      exact RM.mono gx2 (show RM X.K H0 H0 .new G H d (.ref a) from ⟨a, rfl, h2, h3, h4⟩)
    · cases e1⟩
def Fn1M (P : Program) (w : World) (K : PySem.W.Frag) (mg : Str → Option Value) (base : Heap) (x : Str) (ps : List Str) (k : Nat) (rm : Md) (ms : List Md) (F : List PyData → Option PyData) : Prop :=
  ∃ (f : Addr) (fd : FuncData), FnOk P w K mg base CX0 k f fd ps (spM K rm ms F) ∧ mg x = some (.ref f) ∧ PySem.W.keepIn K (.ref f) = true ∧ Binds K fd ps []
def sRetMov (F : List PyData → Option PyData) (r : SA) : SS := fun ρ => (r ρ).bind fun ds => (F ds).bind fun d => some (.rt d)
@[simp] theorem sRetMov_r {F : List PyData → Option PyData} {ρ : Rho} : sRetMov F r ρ = (r ρ).bind fun ds => (F ds).bind fun d => some (.rt d) := rfl
theorem s_retMov {pos2 : Pos} (F : Fn1M X.prog X.w X.K X.mg X.base x ps k rm ms Fn) (hr : Room k X.A) (ha : DAm X ms (e :: es) r) (hg : Gl X x := by rfl) (hdb : (x == ("__debug__" : Str)) = false := by decide) (he : starEach (e :: es) X.env = (false, eval e X.env) :: starEach es X.env := by rfl) (hpl : (backTo pos (starEach es X.env)).any (·.1) = false := by rfl) :
    DS X rm (.Return (some (.Call (.Name x p) (e :: es) [] pos)) pos2) (sRetMov Fn r) := by
  obtain ⟨f, fd, F, hm, hk, hb⟩ := F
  refine ⟨(ps_ret (pe_call F hr hg hm hk hb .nil pass0 ha.pa hdb he hpl)).imp fun D σ H ⟨G0, H0, G, ρ, o, s, ed, q⟩ => ?_⟩
  obtain ⟨ds, e1, ed⟩ := bind_some ed
  obtain ⟨d, e2, ed⟩ := bind_some ed
  cases ed
  refine ⟨G0, H0, G, ρ, ds, s, e1, fun G1 H1 vs gx1 ra => ?_⟩
  show spM X.K rm ms Fn (vs ++ []) H1 _ E0
  rw [List.append_nil]
  have s1 := s.gx' gx1
  exact ⟨ra.len.2, G1, H0, ds, d, ⟨Ex.refl _, s1.gx.h, s1.gx.gh, fun _ h => .inl h⟩, ra, e2, fun G2 H2 v gx2 r2 => q G2 H2 v ⟨s1.gx.g.trans gx2.g, gx2.h, gx2.gh, fun a ha => (gx2.nw a ha).elim (s1.gx.nw a) .inr⟩ r2⟩
end
end DV

namespace DV
open PySem L2 PySem.Spec PyProof.Rows
/-! ### dicts: keys ints and texts, or tuples of these (those begin with a mark) -/
def unK : PyData → Option Key
  | .int i => some (.inl i)
  | .str x => some (.inr x)
  | _ => none
theorem unK_key : ∀ k : Key, unK (keyD k) = some k
  | .inl _ => rfl
  | .inr _ => rfl
theorem unK_inv : ∀ {d : PyData} {k : Key}, unK d = some k → d = keyD k
  | .int i, k, h => by cases h; rfl
  | .str x, k, h => by cases h; rfl
def unKs : List PyData → Option (List Key)
  | [] => some []
  | d :: r => match unK d, unKs r with
    | some k, some ks => some (k :: ks)
    | _, _ => none
theorem unKs_keys : ∀ ks : List Key, unKs (ks.map keyD) = some ks
  | [] => rfl
  | k :: ks => by
    rw [List.map_cons, unKs, unK_key, unKs_keys ks]
theorem unKs_inv : ∀ {l : List PyData} {ks : List Key}, unKs l = some ks → l = ks.map keyD
  | [], ks, h => by cases h; rfl
  | d :: r, ks, h => by
    unfold unKs at h
    split at h
    · rename_i k ks' h1 h2
      cases h
      rw [List.map_cons, unK_inv h1, unKs_inv h2]
    · cases h
def unT : PyData → Option (List Key)
  | .tuple l => unKs l
  | _ => none
theorem unT_key (ks : List Key) : unT (keysD ks) = some ks := unKs_keys ks
theorem unT_inv : ∀ {d : PyData} {k : List Key}, unT d = some k → d = keysD k
  | .tuple l, k, h => by
    have h : unKs l = some k := h
    rw [unKs_inv h]; rfl
section
variable {κ : Type} [DecidableEq κ] (un : PyData → Option κ)
def valD : List (PyData × PyData) → κ → Option PyData
  | [], _ => none
  | p :: r, k => if un p.1 = some k then some p.2 else valD r k
def hasD : List (PyData × PyData) → κ → Bool
  | [], _ => false
  | p :: r, k => if un p.1 = some k then true else hasD r k
def repD : List (PyData × PyData) → κ → PyData → List (PyData × PyData)
  | [], _, _ => []
  | p :: r, k, v => (if un p.1 = some k then (p.1, v) else p) :: repD r k v
def putD (es : List (PyData × PyData)) (kd : PyData) (k : κ) (v : PyData) : List (PyData × PyData) := if hasD un es k = true then repD un es k v else es ++ [(kd, v)]
variable {kd : κ → PyData} {K : PySem.W.Frag} {G : Hp}
theorem valD_V (hun : ∀ k, un (kd k) = some k) : ∀ {es : List (PyData × PyData)} {ks : List (κ × V)}, es.map (·.1) = ks.map (fun p => kd p.1) → RepA K G (es.map (·.2)) (ks.map (·.2)) → ∀ k, (valD un es k = none ∧ valV ks k = none) ∨ ∃ d v, valD un es k = some d ∧ valV ks k = some v ∧ Rep K G d v
  | [], [], _, _, k => .inl ⟨rfl, rfl⟩
  | [], _ :: _, h, _, _ => by simp at h
  | _ :: _, [], h, _, _ => by simp at h
  | p :: es, q :: ks, h, r, k => by
    rw [List.map_cons, List.map_cons] at h
    injection h with h1 h2
    rw [List.map_cons, List.map_cons] at r
    cases r with
    | cons r1 r2 =>
      unfold valD
      rw [h1, hun]
      by_cases c : q.1 = k
      · rw [if_pos (by rw [c]), valV_pos c]
        exact .inr ⟨_, _, rfl, rfl, r1⟩
      · rw [if_neg (fun z => c (Option.some.inj z)), valV_neg c]
        exact valD_V hun h2 r2 k
theorem hasD_V (hun : ∀ k, un (kd k) = some k) : ∀ {es : List (PyData × PyData)} {ks : List (κ × V)}, es.map (·.1) = ks.map (fun p => kd p.1) → ∀ k, hasD un es k = ks.any fun p => decide (p.1 = k)
  | [], [], _, k => rfl
  | [], _ :: _, h, _ => by simp at h
  | _ :: _, [], h, _ => by simp at h
  | p :: es, q :: ks, h, k => by
    rw [List.map_cons, List.map_cons] at h
    injection h with h1 h2
    unfold hasD
    rw [h1, hun, List.any_cons]
    by_cases c : q.1 = k
    · rw [if_pos (by rw [c]), decide_eq_true c]; rfl
    · rw [if_neg (fun z => c (Option.some.inj z)), decide_eq_false c, Bool.false_or, hasD_V hun h2 k]
theorem repD_V (hun : ∀ k, un (kd k) = some k) {k : κ} {d : PyData} {v : V} (rv : Rep K G d v) : ∀ {es : List (PyData × PyData)} {ks : List (κ × V)}, es.map (·.1) = ks.map (fun p => kd p.1) → RepA K G (es.map (·.2)) (ks.map (·.2)) →
    (repD un es k d).map (·.1) = (ks.map fun kv => if kv.1 = k then (kv.1, v) else kv).map (fun p => kd p.1) ∧ RepA K G ((repD un es k d).map (·.2)) ((ks.map fun kv => if kv.1 = k then (kv.1, v) else kv).map (·.2))
  | [], [], _, _ => ⟨rfl, .nil⟩
  | [], _ :: _, h, _ => by simp at h
  | _ :: _, [], h, _ => by simp at h
  | p :: es, q :: ks, h, r => by
    rw [List.map_cons, List.map_cons] at h
    injection h with h1 h2
    rw [List.map_cons, List.map_cons] at r
    cases r with
    | cons r1 r2 =>
      obtain ⟨i1, i2⟩ := repD_V hun rv h2 r2
      unfold repD
      rw [List.map_cons, List.map_cons, List.map_cons, List.map_cons, List.map_cons]
      by_cases c : q.1 = k
      · rw [if_pos (by rw [h1, hun, c]), if_pos c]
        exact ⟨by rw [i1, h1], .cons rv i2⟩
      · rw [if_neg (fun z => c (by rw [h1, hun] at z; exact Option.some.inj z)), if_neg c]
        exact ⟨by rw [i1, h1], .cons r1 i2⟩
theorem putD_V (hun : ∀ k, un (kd k) = some k) {k : κ} {d : PyData} {v : V} (rv : Rep K G d v) {es : List (PyData × PyData)} {ks : List (κ × V)} (h : es.map (·.1) = ks.map (fun p => kd p.1)) (r : RepA K G (es.map (·.2)) (ks.map (·.2))) :
    (putD un es (kd k) k d).map (·.1) = (putK ks k v).map (fun p => kd p.1) ∧ RepA K G ((putD un es (kd k) k d).map (·.2)) ((putK ks k v).map (·.2)) := by
  unfold putD putK
  rw [hasD_V un hun h k]
  split
  · exact repD_V un hun rv h r
  · rw [List.map_append, List.map_append, List.map_append, List.map_append]
    exact ⟨by rw [h]; rfl, r.app (.cons rv .nil)⟩
end
/-- what stands in a dict at a key -/
def dGet : PyData → PyData → Option (Option PyData)
  | .dict ((.none, .none) :: es), k => (unT k).map (valD unT es)
  | .dict es, k => (unK k).map (valD unK es)
  | _, _ => none
def dPut : PyData → PyData → PyData → Option PyData
  | .dict ((.none, .none) :: es), k, v => (unT k).bind fun kk => if es.length < sizeLine then some (.dict ((.none, .none) :: putD unT es k kk v)) else none
  | .dict es, k, v => (unK k).bind fun kk => if es.length < sizeLine then some (.dict (putD unK es k kk v)) else none
  | _, _, _ => none
theorem keys_rep {K : PySem.W.Frag} {G : Hp} : ∀ {ks : List Key} {vs : List V}, RepA K G (ks.map keyD) vs → vs = ks.map kV
  | [], _, .nil => rfl
  | .inl i :: ks, _, .cons h t => by
    cases h
    rw [keys_rep t]; rfl
  | .inr i :: ks, _, .cons h t => by
    cases h
    rw [keys_rep t]; rfl
theorem key_rep {K : PySem.W.Frag} {G H : Hp} {k : PyData} {kk : Key} {y : V} (h : unK k = some kk) (r : RepB K G H k y) : y = kV kk := by
  rw [unK_inv h] at r
  cases kk with
  | inl i => exact r.int
  | inr x => exact r.str
theorem tkey_rep {K : PySem.W.Frag} {G H : Hp} {k : PyData} {kk : List Key} {y : V} (e : Ex G H) (h : unT k = some kk) (r : RepB K G H k y) : ∃ b, y = .ref b ∧ H b = some (.tup (kk.map kV)) := by
  rw [unT_inv h] at r
  cases r with
  | val r =>
    cases r with
    | tup h1 ra => exact ⟨_, rfl, by rw [e _ _ h1, keys_rep ra]⟩
theorem noneK {es : List (PyData × PyData)} {ks : List (Key × V)} (h : ((PyData.none, PyData.none) :: es).map (·.1) = ks.map (fun p => keyD p.1)) : False := by
  cases ks with
  | nil => simp at h
  | cons q ks =>
    rw [List.map_cons, List.map_cons] at h
    injection h with h1 h2
    obtain ⟨a, b⟩ := q
    cases a <;> cases h1
/-- a dict's data, by its keys -/
inductive DForm : PyData → Type where
  | t (es : List (PyData × PyData)) : DForm (.dict ((.none, .none) :: es))
theorem dict_ok {K : PySem.W.Frag} {G H : Hp} {d k : PyData} {x y : V} {o : Option PyData} (e : Ex G H) (rx : RepB K G H d x) (ry : RepB K G H k y) (h : dGet d k = some o) : ∃ a ov, x = .ref a ∧ IsD H a ∧ DGet H a y ov ∧ ((o = none ∧ ov = none) ∨ ∃ dv v, o = some dv ∧ ov = some v ∧ Rep K G dv v) := by
  have goK : ∀ (a : Addr) (ks : List (Key × V)) (es : List (PyData × PyData)), Rd H a (.dK ks) → es.map (·.1) = ks.map (fun p => keyD p.1) → RepA K G (es.map (·.2)) (ks.map (·.2)) → dGet (.dict es) k = some o → ∃ ov, IsD H a ∧ DGet H a y ov ∧ ((o = none ∧ ov = none) ∨ ∃ dv v, o = some dv ∧ ov = some v ∧ Rep K G dv v) := by
    intro a ks es rd hk ra hd
    have hd : (unK k).map (valD unK es) = some o := by
      unfold dGet at hd
      split at hd
      · rename_i z
        cases z
        exact (noneK hk).elim
      · rename_i z
        cases z
        exact hd
      · rename_i z1 z2
        exact absurd rfl (z2 _)
    obtain ⟨kk, hkk, rfl⟩ := map_some hd
    refine ⟨valV ks kk, .inl ⟨_, rd⟩, .inl ⟨ks, kk, rd, key_rep hkk ry, rfl⟩, ?_⟩
    rcases valD_V unK unK_key hk ra kk with ⟨z1, z2⟩ | ⟨dv, v, z1, z2, z3⟩
    · exact .inl ⟨z1, z2⟩
    · exact .inr ⟨dv, v, z1, z2, z3⟩
  have goT : ∀ (a : Addr) (ks : List (List Key × V)) (es : List (PyData × PyData)), Rd H a (.dT ks) → es.map (·.1) = ks.map (fun p => keysD p.1) → RepA K G (es.map (·.2)) (ks.map (·.2)) → dGet (.dict ((.none, .none) :: es)) k = some o → ∃ ov, IsD H a ∧ DGet H a y ov ∧ ((o = none ∧ ov = none) ∨ ∃ dv v, o = some dv ∧ ov = some v ∧ Rep K G dv v) := by
    intro a ks es rd hk ra hd
    have hd : (unT k).map (valD unT es) = some o := hd
    obtain ⟨kk, hkk, rfl⟩ := map_some hd
    obtain ⟨b, rfl, hb⟩ := tkey_rep e hkk ry
    refine ⟨valV ks kk, .inr ⟨_, rd⟩, .inr ⟨ks, kk, b, rd, rfl, hb, rfl⟩, ?_⟩
    rcases valD_V unT unT_key hk ra kk with ⟨z1, z2⟩ | ⟨dv, v, z1, z2, z3⟩
    · exact .inl ⟨z1, z2⟩
    · exact .inr ⟨dv, v, z1, z2, z3⟩
  cases rx with
  | val r =>
    cases r with
    | dK rd hk ra => exact (goK _ _ _ (e.rd rd) hk ra h).elim fun ov q => ⟨_, ov, rfl, q⟩
    | dT rd hk ra => exact (goT _ _ _ (e.rd rd) hk ra h).elim fun ov q => ⟨_, ov, rfl, q⟩
    | _ => cases h
  | lst => cases h
  | dK rd hk ra => exact (goK _ _ _ (.of rd) hk ra h).elim fun ov q => ⟨_, ov, rfl, q⟩
  | dT rd hk ra => exact (goT _ _ _ (.of rd) hk ra h).elim fun ov q => ⟨_, ov, rfl, q⟩
/-- an own dict is written -/
theorem dput_ok {K : PySem.W.Frag} {G H : Hp} {a : Addr} {d k dv d' : PyData} {y v : V} (e : Ex G H) (ow : Own K G H a d) (ry : RepB K G H k y) (rv : Rep K G dv v) (h : dPut d k dv = some d') : ∃ o, DPut H a y v (upd H a o) ∧ Own K G (upd H a o) a d' := by
  cases ow with
  | lst => cases h
  | @dK ks es ha hk ra =>
    have h : ((unK k).bind fun kk => if es.length < sizeLine then some (PyData.dict (putD unK es k kk dv)) else none) = some d' := by
      unfold dPut at h
      split at h
      · rename_i z
        cases z
        exact (noneK hk).elim
      · rename_i z
        cases z
        exact h
      · rename_i z1 z2
        exact absurd rfl (z2 _)
    obtain ⟨kk, hkk, h⟩ := bind_some h
    obtain ⟨hl, rfl⟩ := if_some h
    have hl2 : ks.length < sizeLine := by
      have := congrArg List.length hk
      rw [List.length_map, List.length_map] at this
      omega
    refine ⟨.dK (putK ks kk v), .inl ⟨ks, kk, ha, key_rep hkk ry, hl2, rfl⟩, ?_⟩
    obtain ⟨p1, p2⟩ := putD_V unK unK_key (k := kk) rv hk ra
    rw [← unK_inv hkk] at p1 p2
    exact .dK upd_same p1 p2
  | @dT ks es ha hk ra =>
    have h : ((unT k).bind fun kk => if es.length < sizeLine then some (PyData.dict ((.none, .none) :: putD unT es k kk dv)) else none) = some d' := h
    obtain ⟨kk, hkk, h⟩ := bind_some h
    obtain ⟨hl, rfl⟩ := if_some h
    obtain ⟨b, rfl, hb⟩ := tkey_rep e hkk ry
    have hl2 : ks.length < sizeLine := by
      have := congrArg List.length hk
      rw [List.length_map, List.length_map] at this
      omega
    refine ⟨.dT (putK ks kk v), .inr ⟨ks, kk, b, ha, rfl, hb, hl2, rfl⟩, ?_⟩
    obtain ⟨p1, p2⟩ := putD_V unT unT_key (k := kk) rv hk ra
    rw [← unT_inv hkk] at p1 p2
    exact .dT upd_same p1 p2
section
variable {X : Cx} {rm m : Md} {a b c e : Expr} {f g h : SE} {pos p1 apos : Pos} {k : Nat} {x : Str}
def oDGet (d k : PyData) : Option PyData := (dGet d k).bind id
theorem d_dget (hr : Room k X.A) (ha : DX X .bor a f) (hb : DX X .bor b g) (hs : NoSl b := by intro _ _; rfl) : DX X .val (.Subscript a b pos) (eOp oDGet f g) :=
  ⟨(pe_dget (hu_of hr) ha.pe hb.pe hs).imp fun σ H Q ⟨G0, H0, G, ρ, d, s, ed, q⟩ => by
    obtain ⟨d1, e1, ed⟩ := bind_some ed
    obtain ⟨d2, e2, ed⟩ := bind_some ed
    obtain ⟨o, e3, e4⟩ := bind_some ed
    have e4 : o = some d := e4
    refine ⟨G0, H0, G, ρ, d1, s, e1, fun G1 H1 u gx1 r1 => ⟨G0, H0, G1, ρ, d2, s.gx' gx1, e2, fun G2 H2 w gx2 r2 => ?_⟩⟩
    obtain ⟨a', ov, z1, z2, z3, z4⟩ := dict_ok gx2.gh (RepB.mono gx2.g gx2.h r1) r2 e3
    rcases z4 with ⟨z5, _⟩ | ⟨dv, v, z5, z6, z7⟩
    · rw [z5] at e4; cases e4
    · rw [z5] at e4; cases e4
      subst z6
      exact ⟨a', v, z1, z3, q G2 H2 v (gx1.trans gx2) z7⟩⟩
def oDIn (k d : PyData) : Option PyData := (dGet d k).map fun o => .bool o.isSome
def oDNotIn (k d : PyData) : Option PyData := (dGet d k).map fun o => .bool (!o.isSome)
theorem din_of : ∀ σ H Q, tE X.K .val (eOp oDIn g f) σ H Q → tDIn (tE X.K .bor g) (tE X.K .bor f) σ H Q := fun σ H Q ⟨G0, H0, G, ρ, d, s, ed, q⟩ => by
  obtain ⟨d1, e1, ed⟩ := bind_some ed
  obtain ⟨d2, e2, ed⟩ := bind_some ed
  obtain ⟨o, e3, rfl⟩ := map_some ed
  refine ⟨G0, H0, G, ρ, d1, s, e1, fun G1 H1 u gx1 r1 => ⟨G0, H0, G1, ρ, d2, s.gx' gx1, e2, fun G2 H2 w gx2 r2 => ?_⟩⟩
  obtain ⟨a', ov, z1, z2, z3, z4⟩ := dict_ok gx2.gh r2 (RepB.mono gx2.g gx2.h r1) e3
  refine ⟨a', ov, z1, z3, ?_⟩
  have : ov.isSome = o.isSome := by
    rcases z4 with ⟨z5, z6⟩ | ⟨dv, v, z5, z6, z7⟩ <;> rw [z5, z6] <;> rfl
  rw [this]
  exact q G2 H2 _ (gx1.trans gx2) (.bl _)
theorem dnotin_of : ∀ σ H Q, tE X.K .val (eOp oDNotIn g f) σ H Q → tDNotIn (tE X.K .bor g) (tE X.K .bor f) σ H Q := fun σ H Q ⟨G0, H0, G, ρ, d, s, ed, q⟩ => by
  obtain ⟨d1, e1, ed⟩ := bind_some ed
  obtain ⟨d2, e2, ed⟩ := bind_some ed
  obtain ⟨o, e3, rfl⟩ := map_some ed
  refine ⟨G0, H0, G, ρ, d1, s, e1, fun G1 H1 u gx1 r1 => ⟨G0, H0, G1, ρ, d2, s.gx' gx1, e2, fun G2 H2 w gx2 r2 => ?_⟩⟩
  obtain ⟨a', ov, z1, z2, z3, z4⟩ := dict_ok gx2.gh r2 (RepB.mono gx2.g gx2.h r1) e3
  refine ⟨a', ov, z1, z3, ?_⟩
  have : ov.isSome = o.isSome := by
    rcases z4 with ⟨z5, z6⟩ | ⟨dv, v, z5, z6, z7⟩ <;> rw [z5, z6] <;> rfl
  rw [this]
  exact q G2 H2 _ (gx1.trans gx2) (.bl _)
theorem d_din (hr : Room k X.A) (ha : DX X .bor a f) (hb : DX X .bor b g) (hm : behindInMarks .In b = false := by rfl) : DX X .val (.Compare a [.In] [b] pos) (eOp oDIn f g) := ⟨(pe_cmp (pc_din (hu_of hr) ha.pe hb.pe) hm).imp din_of⟩
theorem t_din (hr : Room k X.A) (ha : DX X .bor a f) (hb : DX X .bor b g) (hm : behindInMarks .In b = false := by rfl) : DT X (.Compare a [.In] [b] pos) (bT (eOp oDIn f g)) := ⟨(pt_cmp (pc_din (hu_of hr) ha.pe hb.pe) hm).imp (tTest_of din_of)⟩
theorem d_dnotin (hr : Room k X.A) (ha : DX X .bor a f) (hb : DX X .bor b g) (hm : behindInMarks .NotIn b = false := by rfl) : DX X .val (.Compare a [.NotIn] [b] pos) (eOp oDNotIn f g) := ⟨(pe_cmp (pc_dnotin (hu_of hr) ha.pe hb.pe) hm).imp dnotin_of⟩
theorem t_dnotin (hr : Room k X.A) (ha : DX X .bor a f) (hb : DX X .bor b g) (hm : behindInMarks .NotIn b = false := by rfl) : DT X (.Compare a [.NotIn] [b] pos) (bT (eOp oDNotIn f g)) := ⟨(pt_cmp (pc_dnotin (hu_of hr) ha.pe hb.pe) hm).imp (tTest_of dnotin_of)⟩
/-- d.get(y, x) -/
def oDGet2 (d : PyData) : List PyData → Option PyData
  | [k, x] => (dGet d k).map fun o => o.getD x
  | _ => none
theorem d_dget2 (hr : Room k X.A) (ha : DX X .bor a f) (hb : DX X .bor b g) (hc : DX X .val c h) (m : M2 X a "get" apos b c pos := by exact ⟨rfl, rfl, rfl, rfl⟩) : DX X .val (.Call (.Attribute a "get" apos) [b, c] [] pos) (eBm oDGet2 f (aCons g (aCons h aNil))) :=
  ⟨(pe_dget2 (hu_of hr) ha.pe hb.pe hc.pe m).imp fun σ H Q ⟨G0, H0, G, ρ, d, s, ed, q⟩ => by
    obtain ⟨d1, e1, ed⟩ := bind_some ed
    obtain ⟨ds, e2, ed⟩ := bind_some ed
    obtain ⟨d2, e3, e2⟩ := bind_some e2
    obtain ⟨ds2, e4, e2⟩ := bind_some e2
    obtain ⟨d3, e5, e4⟩ := bind_some e4
    cases e4
    cases e2
    obtain ⟨o, e6, rfl⟩ := map_some (show (dGet d1 d2).map (fun o => o.getD d3) = some d from ed)
    refine ⟨G0, H0, G, ρ, d1, s, e1, fun G1 H1 u gx1 r1 => ?_⟩
    have isd : ∃ a', u = .ref a' ∧ IsD H1 a' := by
      cases r1 with
      | val r =>
        cases r with
        | dK rd _ _ => exact ⟨_, rfl, .inl ⟨_, gx1.gh.rd rd⟩⟩
        | dT rd _ _ => exact ⟨_, rfl, .inr ⟨_, gx1.gh.rd rd⟩⟩
        | _ => cases e6
      | lst => cases e6
      | dK rd _ _ => exact ⟨_, rfl, .inl ⟨_, .of rd⟩⟩
      | dT rd _ _ => exact ⟨_, rfl, .inr ⟨_, .of rd⟩⟩
    obtain ⟨a', rfl, isd⟩ := isd
    refine ⟨a', rfl, isd, G0, H0, G1, ρ, d2, s.gx' gx1, e3, fun G2 H2 w gx2 r2 => ⟨G0, H0, G2, ρ, d3, (s.gx' gx1).gx' gx2, e5, fun G3 H3 z gx3 r3 => ?_⟩⟩
    have gx23 := gx2.trans gx3
    obtain ⟨a2, ov, z1, z2, z3, z4⟩ := dict_ok gx3.gh (RepB.mono gx23.g gx23.h r1) (RepB.mono gx3.g gx3.h r2) e6
    cases z1
    refine ⟨ov, z3, q G3 H3 _ (gx1.trans gx23) ?_⟩
    rcases z4 with ⟨z5, z6⟩ | ⟨dv, v, z5, z6, z7⟩
    · rw [z5, z6]; exact r3
    · rw [z5, z6]; exact z7⟩
theorem d_dnewK : DX X .new (.Dict [] [] pos) (eK (.dict [])) := ⟨pe_dnewK.imp fun σ H Q ⟨G0, H0, G, ρ, d, s, ed, q⟩ => by
  cases ed
  exact fun p np => q G _ _ (Gx.mine s.gx.gh np) ⟨p, rfl, np, s.gx.gh.back np, .dK upd_same rfl .nil⟩⟩
theorem d_dnewT : DX X .new (.Dict [] [] pos) (eK (.dict [(.none, .none)])) := ⟨pe_dnewT.imp fun σ H Q ⟨G0, H0, G, ρ, d, s, ed, q⟩ => by
  cases ed
  exact fun p np => q G _ _ (Gx.mine s.gx.gh np) ⟨p, rfl, np, s.gx.gh.back np, .dT upd_same rfl .nil⟩⟩
/-- d[k] = v -/
def sDPut (i : Nat) (fv fk : SE) : SS := fun ρ => match ρ[i]? with
  | some (.own d) => (fv ρ).bind fun v => (fk ρ).bind fun k => (dPut d k v).bind fun d' => some (.nx (ρ.set i (.own d')))
  | _ => none
theorem s_dput (i : Nat) {tpos : Pos} (hr : Room k X.A) (he : DX X .val e g) (hi : DX X .bor b f) (hN : X.N[i]? = some x := by rfl) (hv : Vis X.env.scope x := by first | exact Or.inl rfl | exact Or.inr (Or.inl rfl) | exact Or.inr (Or.inr rfl)) (hd : (x == ("__debug__" : Str)) = false := by decide)
    (hcd : (x == ("__classdict__" : Str)) = false := by decide) (hs : swapsWith e (some (.Subscript (.Name x p1) b tpos)) pos.line X.env = pure false := by rfl) : DS X rm (.Assign [.Subscript (.Name x p1) b tpos] e pos) (sDPut i g f) :=
  ⟨(ps_dput (hu_of hr) (pv i hN hv hd hcd) hi.pe he.pe hs).imp fun D σ H ⟨G0, H0, G, ρ, o, s, ed, q⟩ => by
    unfold sDPut at ed
    split at ed
    · rename_i d hd
      obtain ⟨v, e1, ed⟩ := bind_some ed
      obtain ⟨kd, e2, ed⟩ := bind_some ed
      obtain ⟨d', e3, ed⟩ := bind_some ed
      cases ed
      refine ⟨G0, H0, G, ρ, v, s, e1, fun G1 H1 u gx1 r1 => ?_⟩
      have s1 := s.gx' gx1
      obtain ⟨p, h1, h2, h3, h4⟩ := s1.own hd
      refine ⟨_, h1, G0, H0, G1, ρ, kd, s1, e2, fun G2 H2 y gx2 r2 => ?_⟩
      have s2 := s1.gx' gx2
      obtain ⟨p', k1, k2, k3, k4⟩ := s2.own hd
      rw [h1] at k1; cases k1
      obtain ⟨ho, z1, z2⟩ := dput_ok gx2.gh k4 r2 (Rep.mono gx2.g r1) e3
      exact ⟨p, _, rfl, z1, q G2 σ _ (gx1.g.trans gx2.g) (s2.write hd h1 k2 k3 z2)⟩
    · cases ed⟩
@[simp] theorem sDPut_r {i : Nat} {ρ : Rho} : sDPut i f g ρ = (match getS ρ i with
  | some (.own d) => (f ρ).bind fun v => (g ρ).bind fun k => (dPut d k v).bind fun d' => some (.nx (ρ.set i (.own d')))
  | _ => none) := by rw [getS_eq]; rfl
end
end DV

namespace DV
open PySem L2 PySem.Spec PyProof.Rows
/-! ### tuple + tuple, slices of tuples -/
theorem tup_rep {K : PySem.W.Frag} {G H : Hp} {ds : List PyData} {v : V} (h : RepB K G H (.tuple ds) v) : ∃ a vs, v = .ref a ∧ G a = some (.tup vs) ∧ RepA K G ds vs := by
  cases h with
  | val h =>
    cases h with
    | tup h r => exact ⟨_, _, rfl, h, r⟩
def oTCat : PyData → PyData → Option PyData
  | .tuple xs, .tuple ys => if xs.length + ys.length ≤ sizeLine then some (.tuple (xs ++ ys)) else none
  | _, _ => none
theorem repA_nil {K : PySem.W.Frag} {G : Hp} {ds : List PyData} (h : RepA K G ds []) : ds = [] := by cases h; rfl
theorem opf_tcat {K : PySem.W.Frag} : OpF K .val (rCatA K) oTCat := fun G H d1 d2 d x y Q e r1 r2 h q => by
  unfold oTCat at h
  split at h
  · obtain ⟨hl, rfl⟩ := if_some h
    obtain ⟨a, vs, rfl, ha, ra⟩ := tup_rep r1
    obtain ⟨b, us, rfl, hb, rb⟩ := tup_rep r2
    refine ⟨a, b, vs, us, rfl, rfl, e.sqt (sqtOf ha), e.sqt (sqtOf hb), by rw [← ra.len, ← rb.len]; exact hl, fun z => ?_, fun _ z => ?_, fun _ _ p np => ?_⟩
    · subst z
      rw [repA_nil ra, List.nil_append] at q
      exact q G H _ (Gx.refl e) fun _ => .tup hb rb
    · subst z
      rw [repA_nil rb, List.append_nil] at q
      exact q G H _ (Gx.refl e) fun _ => .tup ha ra
    · exact q _ _ _ (Gx.new e np) fun _ => .tup upd_same ((ra.app rb).mono (Ex.new (e.back np)))
  · cases h
def oSlT (d : PyData) (lo hi : Option Int) : Option PyData := match d with
  | .tuple ds => some (.tuple (cutD ds lo hi))
  | _ => none
section
variable {X : Cx} {rm m : Md} {e a : Expr} {f g : SE} {lo hi : Option Expr} {gl gh : SO} {p2 pos cpos apos : Pos}
theorem d_sliceT (ha : DX X .bor e f) (hl : DO X lo gl) (hu : DO X hi gh) : DX X .val (.Subscript e (.Slice lo hi none p2) pos) (eSl oSlT f gl gh) :=
  ⟨(pe_slice sl_tupA ha.pe hl.po hu.po).imp (sl_three (mo := .bor) (fun G0 H0 G1 H1 G H d1 d lo hi x Q e gx r1 h q => by
    unfold oSlT at h
    split at h
    · rename_i ds
      cases h
      obtain ⟨a, vs, rfl, h1, ra⟩ := tup_rep r1
      refine ⟨a, vs, rfl, e.sqt (sqtOf h1), fun z => ?_, fun _ p np => ?_⟩
      · have : cutD ds lo hi = ds := by
          unfold cutD
          rw [ra.len, z.1, z.2, List.drop_zero, Nat.sub_zero, ← ra.len, List.take_length]
        rw [this] at q
        exact q G H _ (Gx.refl e) (.tup h1 ra)
      · exact q _ _ _ (Gx.new e np) (.tup upd_same ((ra.cut lo hi).mono (Ex.new (e.back np))))
    · cases h) fun h => h)⟩
/-- f(..).append(x): a new list that nobody keeps -/
def sAppTmp (f g : SE) : SS := fun ρ => (f ρ).bind fun d => match d with
  | .list l => (g ρ).bind fun _ => if l.length < sizeLine then some (.nx ρ) else none
  | _ => none
theorem s_appTmp {o : Expr} (ho : DX X .new o f) (ha : DX X .val a g)
    (hbase : attributeBase o "append" X.env (eval o X.env) = eval o X.env := by rfl)
    (hfew : ((backTo cpos (starEach (a :: []) X.env)).all (fun x => !x.1) && (backToKw cpos (keywordEach [] X.env)).all (fun x => x.1.isSome)
      && decide ((a :: []).length + ([] : List Keyword).length + (if ([] : List Keyword).isEmpty then 0 else 1) < 30)) = true := by rfl)
    (hline : (apos.endLine == cpos.line) = true := by rfl) (hs : starEach (a :: []) X.env = (false, eval a X.env) :: starEach [] X.env := by rfl) (hplain : (backTo cpos (starEach [] X.env)).any (·.1) = false := by rfl)
    (hsw : swapsWith (.Call (.Attribute o "append" apos) [a] [] cpos) none pos.line X.env = pure false := by rfl) :
    DS X rm (.Expr (.Call (.Attribute o "append" apos) [a] [] cpos) pos) (sAppTmp f g) :=
  ⟨(ps_expr (pe_bm PySem.F.plainAttrs_list PySem.F.slot_list_append PySem.F.type_list_append mt_append ho.pe (a_cons ha a_nil hs).pa hbase hfew hline hs hplain) hsw).imp fun D σ H ⟨G0, H0, G, ρ, o, s, ed, q⟩ => by
    obtain ⟨d, e1, ed⟩ := bind_some ed
    split at ed
    · rename_i l
      obtain ⟨d2, e2, ed⟩ := bind_some ed
      obtain ⟨hl, ed⟩ := if_some ed
      subst ed
      refine ⟨G0, H0, G, ρ, _, s, e1, fun G1 H1 u gx1 r1 => ?_⟩
      obtain ⟨p, rfl, hp, hg, ow⟩ := r1
      obtain ⟨vs, hv, rl⟩ := own_list ow
      refine ⟨.inl ⟨rfl, _, SqL.of hv⟩, G0, H0, G1, ρ, [d2], s.gx' gx1, ?_, fun G2 H2 us gx2 ra => ?_⟩
      · show (g ρ).bind _ = _
        rw [e2]; rfl
      · cases ra with
        | cons r2 t =>
          cases t
          have hv2 := gx2.h _ _ hv
          refine ⟨p, vs, _, rfl, rfl, hv2, by rw [← rl.len]; exact hl, ?_⟩
          have hg2 : G2 p = none := by
            cases z : G2 p with
            | none => rfl
            | some w =>
              rcases gx2.nw p (by rw [z]; simp) with y | y
              · exact absurd hg y
              · rw [hv] at y; cases y
          have x12 := gx1.trans gx2
          exact q G2 σ _ x12.g (s.gx' ⟨x12.g, x12.h.mut hp, x12.gh.mut hg2, x12.nw⟩)
    · cases ed⟩
end
@[simp] theorem sAppTmp_r {f g : SE} {ρ : Rho} : sAppTmp f g ρ = (f ρ).bind fun d => match d with
  | .list l => (g ρ).bind fun _ => if l.length < sizeLine then some (.nx ρ) else none
  | _ => none := rfl
end DV

namespace Lw
open PySem L2 DV
/-! ### the text -/
def topS (i : Nat) : Stmt := PySem.Challenge.pw_quirekiln_k38_shrink_widths.main.body.getD i (.Pass ⟨0, 0, 0, 0⟩)
abbrev s__law_mixed : Stmt := topS 5
abbrev N__law_mixed : List Str := ["cell", "once", "twice"]
theorem sc__law_mixed : FnScope N__law_mixed ["cell"] (defScope s__law_mixed) := ⟨rfl, rfl, rfl, by decide +kernel, rfl, by decide +kernel, by decide +kernel⟩
abbrev s__law_source : Stmt := topS 6
abbrev N__law_source : List Str := ["cell"]
theorem sc__law_source : FnScope N__law_source ["cell"] (defScope s__law_source) := ⟨rfl, rfl, rfl, by decide +kernel, rfl, by decide +kernel, by decide +kernel⟩
abbrev s__law_cell : Stmt := topS 4
abbrev N__law_cell : List Str := ["script", "k"]
theorem sc__law_cell : FnScope N__law_cell ["script", "k"] (defScope s__law_cell) := ⟨rfl, rfl, rfl, by decide +kernel, rfl, by decide +kernel, by decide +kernel⟩
abbrev s__law_child : Stmt := topS 8
abbrev N__law_child : List Str := ["number", "scale", "base", "factor", "limit", "kind", "turn"]
theorem sc__law_child : FnScope N__law_child ["number", "scale"] (defScope s__law_child) := ⟨rfl, rfl, rfl, by decide +kernel, rfl, by decide +kernel, by decide +kernel⟩
abbrev s_dealt : Stmt := topS 1
abbrev N_dealt : List Str := ["amount", "weights", "total", "shares", "rest", "index", "weight"]
theorem sc_dealt : FnScope N_dealt ["amount", "weights"] (defScope s_dealt) := ⟨rfl, rfl, rfl, by decide +kernel, rfl, by decide +kernel, by decide +kernel⟩
abbrev s_shrink_widths : Stmt := topS 2
abbrev N_shrink_widths : List Str := ["missing", "bases", "weights", "limits", "widths", "active", "shares", "over", "k", "weight", "base", "width", "share"]
theorem sc_shrink_widths : FnScope N_shrink_widths ["missing", "bases", "weights", "limits"] (defScope s_shrink_widths) := ⟨rfl, rfl, rfl, by decide +kernel, rfl, by decide +kernel, by decide +kernel⟩
abbrev s__law_round : Stmt := topS 9
abbrev N__law_round : List Str := ["missing", "rows", "settled", "total", "shares", "rest", "k", "row"]
theorem sc__law_round : FnScope N__law_round ["missing", "rows", "settled"] (defScope s__law_round) := ⟨rfl, rfl, rfl, by decide +kernel, rfl, by decide +kernel, by decide +kernel⟩
abbrev s__law_due : Stmt := topS 10
abbrev N__law_due : List Str := ["missing", "rows", "settled", "widths", "turn", "shares", "over", "k", "row", "width", "share"]
theorem sc__law_due : FnScope N__law_due ["missing", "rows"] (defScope s__law_due) := ⟨rfl, rfl, rfl, by decide +kernel, rfl, by decide +kernel, by decide +kernel⟩
abbrev s__law_is_integer : Stmt := topS 7
abbrev N__law_is_integer : List Str := ["value"]
theorem sc__law_is_integer : FnScope N__law_is_integer ["value"] (defScope s__law_is_integer) := ⟨rfl, rfl, rfl, by decide +kernel, rfl, by decide +kernel, by decide +kernel⟩
abbrev s__law_is_even : Stmt := topS 11
abbrev N__law_is_even : List Str := ["losses", "rows", "above", "k", "j"]
theorem sc__law_is_even : FnScope N__law_is_even ["losses", "rows"] (defScope s__law_is_even) := ⟨rfl, rfl, rfl, by decide +kernel, rfl, by decide +kernel, by decide +kernel⟩
abbrev s_law : Stmt := topS 12
abbrev N_law : List Str := ["script", "number", "extra", "scale", "rows", "cell", "bases", "factors", "limits", "room", "missing", "handed", "told", "width", "losses", "k", "kept", "row"]
theorem sc_law : FnScope N_law ["script"] (defScope s_law) := ⟨rfl, rfl, rfl, by decide +kernel, rfl, by decide +kernel, by decide +kernel⟩
/-! ### the functions on data -/
noncomputable section
/-- _law_mixed(cell): slots 0 cell, 1 once, 2 twice -/
def B__law_mixed : SS :=
  (sSeqn (sSet 1 (eOp oMod (eCall cInt (aCons (eOp oAdd (eOp oMulS (eB 0) (eK (.int 48271))) (eK (.int 12345))) aNil)) (eK (.int 2147483647))))
  (sSeqn (sSet 2 (eOp oMod (eCall cInt (aCons (eOp oAdd (eOp oAdd (eOp oMulS (eB 1) (eB 1)) (eOp oMulS (eK (.int 7)) (eB 1))) (eK (.int 3))) aNil)) (eK (.int 2305843009213693951))))
  (sRet (eOp oMod (eCall cInt (aCons (eOp oAdd (eOp oMulS (eB 2) (eK (.int 16807))) (eK (.int 11))) aNil)) (eK (.int 2305843009213693951))))))
def F__law_mixed : List PyData → Option PyData := box (runF 3 .val [.bor] B__law_mixed)
/-- _law_source(cell): slots 0 cell -/
def B__law_source : SS :=
  (sSeqn (sIf (bT (eOp oGe (eB 0) (eOp oPow (eK (.int 10)) (eK (.int 18)))))
    (sRet (eOp oSub (eB 0) (eOp oPow (eK (.int 10)) (eK (.int 18)))))
    sNext)
  (sRet (eCall F__law_mixed (aCons (eB 0) aNil))))
def F__law_source : List PyData → Option PyData := box (runF 1 .val [.bor] B__law_source)
/-- _law_cell(script, k): slots 0 script, 1 k -/
def B__law_cell : SS :=
  (sSeqn (sIf (bT (eOp oLt (eB 1) (eCall cLen (aCons (eS 0) aNil))))
    (sRet (eOp oIx (eS 0) (eV 1)))
    sNext)
  (sRet (eK (.int 0))))
def F__law_cell : List PyData → Option PyData := box (runF 2 .val [.scr, .val] B__law_cell)
/-- _law_child(number, scale): slots 0 number, 1 scale, 2 base, 3 factor, 4 limit, 5 kind, 6 turn -/
def B__law_child : SS :=
  (sSeqn (sSet 2 (eOp oMod (eCall cInt (aCons (eOp oFdiv (eB 0) (eK (.int 4))) aNil)) (eB 1)))
  (sSeqn (sSet 3 (eOp oMod (eCall cInt (aCons (eOp oFdiv (eB 0) (eK (.int 4000000007))) aNil)) (eK (.int 101))))
  (sSeqn (sSet 4 (eOp oMod (eCall cInt (aCons (eOp oFdiv (eB 0) (eK (.int 404000000707))) aNil)) (eOp oAdd (eB 2) (eK (.int 1)))))
  (sSeqn (sSet 5 (eOp oMod (eCall cInt (aCons (eB 0) aNil)) (eK (.int 4))))
  (sSeqn (sIf (bT (eOp oEq (eB 5) (eK (.int 0))))
    (sSet 4 (eCall cMax2 (aCons (eK (.int 0)) (aCons (eOp oSub (eB 2) (eOp oMod (eCall cInt (aCons (eOp oFdiv (eB 0) (eK (.int 9))) aNil)) (eK (.int 4)))) aNil))))
    sNext)
  (sSeqn (sIf (bT (eOp oEq (eB 5) (eK (.int 1))))
    (sSet 3 (eK (.int 1)))
    sNext)
  (sSeqn (sSet 6 (eOp oMod (eCall cInt (aCons (eCall F__law_mixed (aCons (eOp oAdd (eB 0) (eK (.int 5))) aNil)) aNil)) (eK (.int 5))))
  (sSeqn (sIf (bT (eOp oEq (eB 6) (eK (.int 0))))
    (sSet 3 (eK (.int 0)))
    sNext)
  (sSeqn (sIf (bT (eOp oEq (eB 6) (eK (.int 1))))
    (sSet 4 (eK (.int 0)))
    sNext)
  (sRet (eTup (aCons (eV 2) (aCons (eOp oMulS (eB 3) (eB 2)) (aCons (eV 4) (aCons (eV 3) aNil)))))))))))))))
def F__law_child : List PyData → Option PyData := box (runF 7 .val [.bor, .bor] B__law_child)
def L_dealt_1 : SS :=
  (sIf (bAnd (bT (eOp oGt (eB 6) (eK (.int 0)))) (bT (eOp oGt (eB 4) (eK (.int 0)))))
    (sSeqn (sPutOp 3 (fun i j => i + j) (eV 5) (eK (.int 1)))
    (sAug 4 subI (eK (.int 1))))
    sNext)
/-- dealt(amount, weights): slots 0 amount, 1 weights, 2 total, 3 shares, 4 rest, 5 index, 6 weight -/
def B_dealt : SS :=
  (sSeqn (sSet 2 (eCall cSum (aCons (eB 1) aNil)))
  (sSeqn (sIf (bT (eOp oEq (eB 2) (eK (.int 0))))
    (sRet (eLc (sSeq (eB 1)) (gV 6) bYes (eK (.int 0)) [6]))
    sNext)
  (sSeqn (sOwn 3 (eLc (sSeq (eB 1)) (gV 6) bYes (eOp oFdiv (eOp oMulS (eB 0) (eB 6)) (eB 2)) [6]))
  (sSeqn (sSet 4 (eOp oSub (eB 0) (eCall cSum (aCons (eB 3) aNil))))
  (sSeqn (sFor (sArgs enumI (aCons (eP 1) aNil)) (gT 2 (gsCons (gV 5) (gsCons (gV 6) gsNil))) L_dealt_1)
  (sRetOwn 3))))))
def F_dealt : List PyData → Option PyData := box (runF 7 .new [.bor, .bor] B_dealt)
def L_shrink_widths_1 : SS :=
  (sSeqn (sPut 4 (eOp oIx (eB 3) (eB 8)) (eV 8))
  (sSeqn (sAug 0 subI (eOp oSub (eOp oIx (eB 1) (eB 8)) (eOp oIx (eB 3) (eB 8))))
  (sPut 5 (eK (.int 0)) (eV 8))))
def L_shrink_widths_2 : SS :=
  (sSeqn (sSet 6 (eCall F_dealt (aCons (eB 0) (aCons (eB 5) aNil))))
  (sSeqn (sSet 7 (eLc (sArgs rng1 (aCons (eCall cLen (aCons (eB 1) aNil)) aNil)) (gV 8) (bAnd (bT (eOp oGt (eOp oIx (eB 5) (eB 8)) (eK (.int 0)))) (bT (eOp oLt (eOp oSub (eOp oIx (eB 1) (eB 8)) (eOp oIx (eB 6) (eB 8))) (eOp oIx (eB 3) (eB 8))))) (eV 8) [8]))
  (sSeqn (sIf (bNot (bV (eB 7)))
    (sFz 4 (sRet (eLc (sArgs zipI (aCons (eV 4) (aCons (eP 6) aNil))) (gT 2 (gsCons (gV 11) (gsCons (gV 12) gsNil))) bYes (eOp oSub (eB 11) (eB 12)) [11, 12])))
    sNext)
  (sFor (sSeq (eV 7)) (gV 8) L_shrink_widths_1))))
/-- shrink_widths(missing, bases, weights, limits): slots 0 missing, 1 bases, 2 weights, 3 limits, 4 widths, 5 active, 6 shares, 7 over, 8 k, 9 weight, 10 base, 11 width, 12 share -/
def B_shrink_widths : SS :=
  (sSeqn (sOwn 4 (eCall cList (aCons (eB 1) aNil)))
  (sSeqn (sOwn 5 (eLc (sArgs zipI (aCons (eP 2) (aCons (eP 1) aNil))) (gT 2 (gsCons (gV 9) (gsCons (gV 10) gsNil))) bYes (eOp oMulS (eB 9) (eB 10)) [9, 10]))
  (sSeqn (sWhile 100000 (bT (eOp oGt (eCall cSum (aCons (eB 5) aNil)) (eK (.int 0)))) L_shrink_widths_2)
  (sRetOwn 4))))
def F_shrink_widths : List PyData → Option PyData := box (runF 13 .new [.val, .bor, .bor, .bor] B_shrink_widths)
def L__law_round_1 : SS :=
  (sIf (bNot (bV (eOp oIx (eB 2) (eB 6))))
    (sSeqn (sPut 4 (eOp oFdiv (eOp oMulS (eB 0) (eOp oIx (eOp oIx (eB 1) (eB 6)) (eK (.int 1)))) (eB 3)) (eV 6))
    (sSet 5 (eOp oSub (eB 5) (eOp oIx (eB 4) (eB 6)))))
    sNext)
def L__law_round_2 : SS :=
  (sIf (bAnd (bT (eOp oGt (eB 5) (eK (.int 0)))) (bNot (bV (eOp oIx (eB 2) (eB 6)))))
    (sSeqn (sPut 4 (eOp oAdd (eOp oIx (eB 4) (eB 6)) (eK (.int 1))) (eV 6))
    (sSet 5 (eOp oSub (eB 5) (eK (.int 1)))))
    sNext)
/-- _law_round(missing, rows, settled): slots 0 missing, 1 rows, 2 settled, 3 total, 4 shares, 5 rest, 6 k, 7 row -/
def B__law_round : SS :=
  (sSeqn (sSet 3 (eCall cSum (aCons (eLc (sArgs enumI (aCons (eP 1) aNil)) (gT 2 (gsCons (gV 6) (gsCons (gV 7) gsNil))) (bNot (bV (eOp oIx (eB 2) (eB 6)))) (eOp oIx (eB 7) (eK (.int 1))) [6, 7]) aNil)))
  (sSeqn (sOwn 4 (eLc (sSeq (eB 1)) (gV 7) bYes (eK (.int 0)) [7]))
  (sSeqn (sSet 5 (eV 0))
  (sSeqn (sFor (sArgs rng1 (aCons (eCall cLen (aCons (eB 1) aNil)) aNil)) (gV 6) L__law_round_1)
  (sSeqn (sFor (sArgs rng1 (aCons (eCall cLen (aCons (eB 1) aNil)) aNil)) (gV 6) L__law_round_2)
  (sRetOwn 4))))))
def F__law_round : List PyData → Option PyData := box (runF 8 .new [.val, .bor, .bor] B__law_round)
def L__law_due_1 : SS :=
  (sSeqn (sPut 2 (eK (.bool true)) (eV 7))
  (sSeqn (sPut 3 (eOp oIx (eOp oIx (eB 1) (eB 7)) (eK (.int 2))) (eV 7))
  (sSet 0 (eOp oSub (eB 0) (eOp oSub (eOp oIx (eOp oIx (eB 1) (eB 7)) (eK (.int 0))) (eOp oIx (eOp oIx (eB 1) (eB 7)) (eK (.int 2))))))))
def L__law_due_2 : SS :=
  (sSeqn (sIf (bT (eOp oNotIn (eK (.bool false)) (eB 2)))
    (sRetOwn 3)
    sNext)
  (sSeqn (sSet 5 (eCall F__law_round (aCons (eV 0) (aCons (eB 1) (aCons (eB 2) aNil)))))
  (sSeqn (sSet 6 (eLc (sArgs rng1 (aCons (eCall cLen (aCons (eB 1) aNil)) aNil)) (gV 7) (bAnd (bNot (bV (eOp oIx (eB 2) (eB 7)))) (bT (eOp oLt (eOp oSub (eOp oIx (eOp oIx (eB 1) (eB 7)) (eK (.int 0))) (eOp oIx (eB 5) (eB 7))) (eOp oIx (eOp oIx (eB 1) (eB 7)) (eK (.int 2)))))) (eV 7) [7]))
  (sSeqn (sIf (bT (eOp oEq (eCall cLen (aCons (eB 6) aNil)) (eK (.int 0))))
    (sFz 3 (sRet (eLc (sArgs zipI (aCons (eV 3) (aCons (eP 5) aNil))) (gT 2 (gsCons (gV 9) (gsCons (gV 10) gsNil))) bYes (eOp oSub (eB 9) (eB 10)) [9, 10])))
    sNext)
  (sFor (sSeq (eV 6)) (gV 7) L__law_due_1)))))
/-- _law_due(missing, rows): slots 0 missing, 1 rows, 2 settled, 3 widths, 4 turn, 5 shares, 6 over, 7 k, 8 row, 9 width, 10 share -/
def B__law_due : SS :=
  (sSeqn (sOwn 2 (eLc (sSeq (eB 1)) (gV 8) bYes (eOp oEq (eOp oIx (eB 8) (eK (.int 1))) (eK (.int 0))) [8]))
  (sSeqn (sOwn 3 (eLc (sSeq (eB 1)) (gV 8) bYes (eOp oIx (eB 8) (eK (.int 0))) [8]))
  (sSeqn (sFor (sArgs rng1 (aCons (eOp oAdd (eCall cLen (aCons (eB 1) aNil)) (eK (.int 1))) aNil)) (gV 4) L__law_due_2)
  (sRetOwn 3))))
def F__law_due : List PyData → Option PyData := box (runF 11 .new [.val, .bor] B__law_due)
/-- _law_is_integer(value): slots 0 value -/
def B__law_is_integer : SS :=
  (sRet (eAnd (eIs "int" (eB 0)) (eNot (eIs "bool" (eB 0)))))
def F__law_is_integer : List PyData → Option PyData := box (runF 1 .val [.bor] B__law_is_integer)
def L__law_is_even_1 : SS :=
  (sIf (bAnd (bT (eOp oGt (eOp oIx (eOp oIx (eB 1) (eB 4)) (eK (.int 1))) (eK (.int 0)))) (bT (eOp oGe (eOp oSub (eOp oMulS (eOp oIx (eB 0) (eB 4)) (eOp oIx (eOp oIx (eB 1) (eB 3)) (eK (.int 1)))) (eOp oMulS (eOp oIx (eB 0) (eB 3)) (eOp oIx (eOp oIx (eB 1) (eB 4)) (eK (.int 1))))) (eOp oAdd (eOp oIx (eOp oIx (eB 1) (eB 3)) (eK (.int 1))) (eOp oIx (eOp oIx (eB 1) (eB 4)) (eK (.int 1)))))))
    (sRet (eK (.bool false)))
    sNext)
def L__law_is_even_2 : SS :=
  (sFor (sArgs rng1 (aCons (eCall cLen (aCons (eB 1) aNil)) aNil)) (gV 4) L__law_is_even_1)
/-- _law_is_even(losses, rows): slots 0 losses, 1 rows, 2 above, 3 k, 4 j -/
def B__law_is_even : SS :=
  (sSeqn (sSet 2 (eLc (sArgs rng1 (aCons (eCall cLen (aCons (eB 1) aNil)) aNil)) (gV 3) (bAnd (bT (eOp oGt (eOp oIx (eOp oIx (eB 1) (eB 3)) (eK (.int 1))) (eK (.int 0)))) (bT (eOp oLt (eOp oIx (eB 0) (eB 3)) (eOp oSub (eOp oIx (eOp oIx (eB 1) (eB 3)) (eK (.int 0))) (eOp oIx (eOp oIx (eB 1) (eB 3)) (eK (.int 2))))))) (eV 3) [3]))
  (sSeqn (sFor (sSeq (eV 2)) (gV 3) L__law_is_even_2)
  (sRet (eK (.bool true)))))
def F__law_is_even : List PyData → Option PyData := box (runF 5 .val [.bor, .bor] B__law_is_even)
def L_law_1 : SS :=
  (sMut fApp 4 (aCons (eCall F__law_child (aCons (eCall F__law_source (aCons (eB 5) aNil)) (aCons (eB 3) aNil))) aNil))
def L_law_2 : SS :=
  (sIf (bNot (bV (eCall F__law_is_integer (aCons (eB 13) aNil))))
    (sRet (eK (.bool false)))
    sNext)
def L_law_3 : SS :=
  (sIf (bOr (bT (eOp oLt (eOp oIx (eB 14) (eB 15)) (eK (.int 0)))) (bOr (bT (eOp oLt (eOp oIx (eB 12) (eB 15)) (eOp oIx (eB 8) (eB 15)))) (bAnd (bT (eOp oEq (eOp oIx (eOp oIx (eB 4) (eB 15)) (eK (.int 1))) (eK (.int 0)))) (bT (eOp oNe (eOp oIx (eB 14) (eB 15)) (eK (.int 0)))))))
    (sRet (eK (.bool false)))
    sNext)
/-- law(script): slots 0 script, 1 number, 2 extra, 3 scale, 4 rows, 5 cell, 6 bases, 7 factors, 8 limits, 9 room, 10 missing, 11 handed, 12 told, 13 width, 14 losses, 15 k, 16 kept, 17 row -/
def B_law : SS :=
  (sSeqn (sSet 1 (eCall F__law_source (aCons (eCall F__law_cell (aCons (eS 0) (aCons (eK (.int 0)) aNil))) aNil)))
  (sSeqn (sSet 2 (eCall F__law_source (aCons (eCall F__law_cell (aCons (eS 0) (aCons (eK (.int 1)) aNil))) aNil)))
  (sSeqn (sSet 3 (eOp oIx (eLst (aCons (eK (.int 101)) (aCons (eK (.int 11)) (aCons (eK (.int 1001)) (aCons (eOp oPow (eK (.int 10)) (eK (.int 9))) aNil))))) (eOp oMod (eCall cInt (aCons (eB 1) aNil)) (eK (.int 4)))))
  (sSeqn (sOwn 4 (eLc (sArgs rng1 (aCons (eOp oMod (eCall cInt (aCons (eB 2) aNil)) (eK (.int 10))) aNil)) (gV 15) bYes (eCall F__law_child (aCons (eCall F__law_mixed (aCons (eOp oAdd (eB 2) (eOp oMulS (eK (.int 7919)) (eB 15))) aNil)) (aCons (eB 3) aNil))) [15]))
  (sSeqn (sFor (sSeq (eSl oSlL (eS 0) (oSo (eK (.int 2))) (oSo (eK (.int 9))))) (gV 5) L_law_1)
  (sSeqn (sSet 6 (eLc (sSeq (eB 4)) (gV 17) bYes (eOp oIx (eB 17) (eK (.int 0))) [17]))
  (sSeqn (sSet 7 (eLc (sSeq (eB 4)) (gV 17) bYes (eOp oIx (eB 17) (eK (.int 3))) [17]))
  (sSeqn (sSet 8 (eLc (sSeq (eB 4)) (gV 17) bYes (eOp oIx (eB 17) (eK (.int 2))) [17]))
  (sSeqn (sSet 9 (eCall cSum (aCons (eLc (sSeq (eB 4)) (gV 17) (bT (eOp oGt (eOp oIx (eB 17) (eK (.int 1))) (eK (.int 0)))) (eOp oSub (eOp oIx (eB 17) (eK (.int 0))) (eOp oIx (eB 17) (eK (.int 2)))) [17]) aNil)))
  (sSeqn (sSet 10 (eCall cMax2 (aCons (eK (.int 1)) (aCons (eOp oIx (eLst (aCons (eV 9) (aCons (eOp oAdd (eB 9) (eK (.int 1))) (aCons (eOp oSub (eB 9) (eK (.int 1))) (aCons (eOp oMod (eCall cInt (aCons (eOp oFdiv (eB 1) (eK (.int 16))) aNil)) (eOp oAdd (eOp oMulS (eK (.int 2)) (eB 9)) (eK (.int 2)))) aNil))))) (eOp oMod (eCall cInt (aCons (eOp oFdiv (eB 1) (eK (.int 4))) aNil)) (eK (.int 4)))) aNil))))
  (sSeqn (sSet 11 (eLst (aCons (eCall cList (aCons (eB 6) aNil)) (aCons (eCall cList (aCons (eB 7) aNil)) (aCons (eCall cList (aCons (eB 8) aNil)) aNil)))))
  (sSeqn (sOwn 12 (eCall F_shrink_widths (aCons (eV 10) (aCons (eOp oIx (eB 11) (eK (.int 0))) (aCons (eOp oIx (eB 11) (eK (.int 1))) (aCons (eOp oIx (eB 11) (eK (.int 2))) aNil))))))
  (sSeqn (sIf (bT (eOp oNe (eB 11) (eLst (aCons (eV 6) (aCons (eV 7) (aCons (eV 8) aNil))))))
    (sRet (eK (.bool false)))
    sNext)
  (sSeqn (sIf (bOr (bNot (bV (eIs "list" (eB 12)))) (bOr (bT (eOp oNe (eCall cLen (aCons (eB 12) aNil)) (eCall cLen (aCons (eB 4) aNil)))) (bT (eOp oNe (eB 12) (eCall F__law_due (aCons (eV 10) (aCons (eB 4) aNil)))))))
    (sRet (eK (.bool false)))
    sNext)
  (sSeqn (sForOwn 12 (gV 13) L_law_2)
  (sSeqn (sSet 14 (eLc (sArgs rng1 (aCons (eCall cLen (aCons (eB 4) aNil)) aNil)) (gV 15) bYes (eOp oSub (eOp oIx (eB 6) (eB 15)) (eOp oIx (eB 12) (eB 15))) [15]))
  (sSeqn (sIf (bT (eOp oNe (eCall cSum (aCons (eB 14) aNil)) (eCall cMin2 (aCons (eB 10) (aCons (eB 9) aNil)))))
    (sRet (eK (.bool false)))
    sNext)
  (sSeqn (sFor (sArgs rng1 (aCons (eCall cLen (aCons (eB 4) aNil)) aNil)) (gV 15) L_law_3)
  (sSeqn (sSet 16 (eCall cList (aCons (eB 12) aNil)))
  (sSeqn (sMut fApp 12 (aCons (eUn oNeg (eK (.int 1))) aNil))
  (sSeqn (sIf (bT (eOp oNe (eCall F_shrink_widths (aCons (eV 10) (aCons (eOp oIx (eB 11) (eK (.int 0))) (aCons (eOp oIx (eB 11) (eK (.int 1))) (aCons (eOp oIx (eB 11) (eK (.int 2))) aNil))))) (eB 16)))
    (sRet (eK (.bool false)))
    sNext)
  (sSeqn (sIf (bT (eOp oNe (eOp oSub (eCall cSum (aCons (eB 6) aNil)) (eCall cSum (aCons (eCall F_shrink_widths (aCons (eOp oAdd (eB 10) (eK (.int 1))) (aCons (eOp oIx (eB 11) (eK (.int 0))) (aCons (eOp oIx (eB 11) (eK (.int 1))) (aCons (eOp oIx (eB 11) (eK (.int 2))) aNil))))) aNil))) (eCall cMin2 (aCons (eOp oAdd (eB 10) (eK (.int 1))) (aCons (eB 9) aNil)))))
    (sRet (eK (.bool false)))
    sNext)
  (sRet (eAnd (eOp oEq (eB 11) (eLst (aCons (eV 6) (aCons (eV 7) (aCons (eV 8) aNil))))) (eCall F__law_is_even (aCons (eB 14) (aCons (eB 4) aNil)))))))))))))))))))))))))))
def F_law : List PyData → Option PyData := box (runF 18 .val [.scr] B_law)
end
/-! ### the walks -/
section
variable {P : Program} {w : World} {K : PySem.W.Frag} {mg : Str → Option Value} {base : Heap}
theorem ok__law_mixed {f : Addr} {fd : FuncData} (F : Fun K "_law_mixed" "_law_mixed" s__law_mixed f fd) (z_int : mg "int" = none) :
    FnOk P w K mg base CX0 1 f fd ["cell"] (spD K .val [.bor] F__law_mixed) :=
  fn_okB (b := B__law_mixed) F sc__law_mixed rfl rfl (am_bor am_nil) (fun cdv A outer s H E hr =>
    (b_cons (s_set 1 sc__law_mixed.nd (d_op op_mod (opf_intIf _ _) (d_b (d_callTy call_int1 cf_int bor1 (by rfl) z_int PyProof.Rows.boot_int (a_cons (d_b (d_op op_addAll opf_addAll (d_b (d_op op_mulAll opf_mulAll (d_varb 0) (d_b d_int))) (d_b d_int))) a_nil))) (d_b d_int)))
    (b_cons (s_set 2 sc__law_mixed.nd (d_op op_mod (opf_intIf _ _) (d_b (d_callTy call_int1 cf_int bor1 (by rfl) z_int PyProof.Rows.boot_int (a_cons (d_b (d_op op_addAll opf_addAll (d_b (d_op op_addAll opf_addAll (d_b (d_op op_mulAll opf_mulAll (d_varb 1) (d_varb 1))) (d_b (d_op op_mulAll opf_mulAll (d_b d_int) (d_varb 1))))) (d_b d_int))) a_nil))) (d_b d_int)))
    (b_one (s_ret (d_op op_mod (opf_intIf _ _) (d_b (d_callTy call_int1 cf_int bor1 (by rfl) z_int PyProof.Rows.boot_int (a_cons (d_b (d_op op_addAll opf_addAll (d_b (d_op op_mulAll opf_mulAll (d_varb 2) (d_b d_int))) (d_b d_int))) a_nil))) (d_b d_int)))))))
theorem ok__law_source {f : Addr} {fd : FuncData} (F : Fun K "_law_source" "_law_source" s__law_source f fd) (C__law_mixed : Fn1 P w K mg base "_law_mixed" ["cell"] 1 .val [.bor] F__law_mixed) :
    FnOk P w K mg base CX0 2 f fd ["cell"] (spD K .val [.bor] F__law_source) :=
  fn_okB (b := B__law_source) F sc__law_source rfl rfl (am_bor am_nil) (fun cdv A outer s H E hr =>
    (b_cons (s_if (t_cmp op_ge (opf_cmpI _) (d_varb 0) (d_b (d_op op_pow (opf_intIf _ _) (d_b d_int) (d_b d_int))) (nomark _))
      (b_one (s_ret (d_op op_sub opf_sub (d_varb 0) (d_b (d_op op_pow (opf_intIf _ _) (d_b d_int) (d_b d_int))))))
      b_nil)
    (b_one (s_ret (d_fn C__law_mixed (hr.mono (by decide)) (a_cons (d_varb 0) a_nil) (am_bor am_nil))))))
theorem ok__law_cell {f : Addr} {fd : FuncData} (F : Fun K "_law_cell" "_law_cell" s__law_cell f fd) (z_len : mg "len" = none) :
    FnOk P w K mg base CX0 1 f fd ["script", "k"] (spD K .val [.scr, .val] F__law_cell) :=
  fn_okB (b := B__law_cell) F sc__law_cell rfl rfl (am_scr (am_val am_nil)) (fun cdv A outer s H E hr =>
    (b_cons (s_if (t_cmp op_lt (opf_cmpI _) (d_varb 1) (d_b (d_lenS (d_vars 0) z_len)) (nomark _))
      (b_one (s_ret (d_ixS (d_vars 0) (d_var 1))))
      b_nil)
    (b_one (s_ret d_int))))
theorem ok__law_child {f : Addr} {fd : FuncData} (F : Fun K "_law_child" "_law_child" s__law_child f fd) (C__law_mixed : Fn1 P w K mg base "_law_mixed" ["cell"] 1 .val [.bor] F__law_mixed) (z_int : mg "int" = none) (z_max : mg "max" = none) :
    FnOk P w K mg base CX0 2 f fd ["number", "scale"] (spD K .val [.bor, .bor] F__law_child) :=
  fn_okB (b := B__law_child) F sc__law_child rfl rfl (am_bor (am_bor am_nil)) (fun cdv A outer s H E hr =>
    (b_cons (s_set 2 sc__law_child.nd (d_op op_mod (opf_intIf _ _) (d_b (d_callTy call_int1 cf_int bor1 (by rfl) z_int PyProof.Rows.boot_int (a_cons (d_b (d_op op_fdivW opf_fdiv (d_varb 0) (d_b d_int))) a_nil))) (d_varb 1)))
    (b_cons (s_set 3 sc__law_child.nd (d_op op_mod (opf_intIf _ _) (d_b (d_callTy call_int1 cf_int bor1 (by rfl) z_int PyProof.Rows.boot_int (a_cons (d_b (d_op op_fdivW opf_fdiv (d_varb 0) (d_b d_int))) a_nil))) (d_b d_int)))
    (b_cons (s_set 4 sc__law_child.nd (d_op op_mod (opf_intIf _ _) (d_b (d_callTy call_int1 cf_int bor1 (by rfl) z_int PyProof.Rows.boot_int (a_cons (d_b (d_op op_fdivW opf_fdiv (d_varb 0) (d_b d_int))) a_nil))) (d_b (d_op op_addAll opf_addAll (d_varb 2) (d_b d_int)))))
    (b_cons (s_set 5 sc__law_child.nd (d_op op_mod (opf_intIf _ _) (d_b (d_callTy call_int1 cf_int bor1 (by rfl) z_int PyProof.Rows.boot_int (a_cons (d_varb 0) a_nil))) (d_b d_int)))
    (b_cons (s_if (t_cmp (op_eqD hr.units) opf_eq (d_varb 5) (d_b d_int) (nomark _))
      (b_one (s_set 4 sc__law_child.nd (d_callB (call_max2 rfl) cf_max2 bor2 (by rfl) z_max PyProof.Rows.boot_max (a_cons (d_b d_int) (a_cons (d_b (d_op op_sub opf_sub (d_varb 2) (d_b (d_op op_mod (opf_intIf _ _) (d_b (d_callTy call_int1 cf_int bor1 (by rfl) z_int PyProof.Rows.boot_int (a_cons (d_b (d_op op_fdivW opf_fdiv (d_varb 0) (d_b d_int))) a_nil))) (d_b d_int))))) a_nil)))))
      b_nil)
    (b_cons (s_if (t_cmp (op_eqD hr.units) opf_eq (d_varb 5) (d_b d_int) (nomark _))
      (b_one (s_set 3 sc__law_child.nd d_int))
      b_nil)
    (b_cons (s_set 6 sc__law_child.nd (d_op op_mod (opf_intIf _ _) (d_b (d_callTy call_int1 cf_int bor1 (by rfl) z_int PyProof.Rows.boot_int (a_cons (d_b (d_fn C__law_mixed (hr.mono (by decide)) (a_cons (d_b (d_op op_addAll opf_addAll (d_varb 0) (d_b d_int))) a_nil) (am_bor am_nil))) a_nil))) (d_b d_int)))
    (b_cons (s_if (t_cmp (op_eqD hr.units) opf_eq (d_varb 6) (d_b d_int) (nomark _))
      (b_one (s_set 3 sc__law_child.nd d_int))
      b_nil)
    (b_cons (s_if (t_cmp (op_eqD hr.units) opf_eq (d_varb 6) (d_b d_int) (nomark _))
      (b_one (s_set 4 sc__law_child.nd d_int))
      b_nil)
    (b_one (s_ret (d_tup (a_cons (d_var 2) (a_cons (d_op op_mulAll opf_mulAll (d_varb 3) (d_varb 2)) (a_cons (d_var 4) (a_cons (d_var 3) a_nil)))) (v_cons (v_cons (v_cons (v_cons v_nil)))))))))))))))))
theorem ok_dealt {f : Addr} {fd : FuncData} (F : Fun K "dealt" "dealt" s_dealt f fd) (z_enumerate : mg "enumerate" = none) (z_sum : mg "sum" = none) :
    FnOk P w K mg base CX0 1 f fd ["amount", "weights"] (spD K .new [.bor, .bor] F_dealt) :=
  fn_okB (b := B_dealt) F sc_dealt rfl rfl (am_bor (am_bor am_nil)) (fun cdv A outer s H E hr =>
    (b_cons (s_set 2 sc_dealt.nd (d_callB (cr_sum rfl) cf_sum bor1 (by rfl) z_sum PyProof.Rows.boot_sum (a_cons (d_varb 1) a_nil)))
    (b_cons (s_if (t_cmp (op_eqD hr.units) opf_eq (d_varb 2) (d_b d_int) (nomark _))
      (b_one (s_ret (d_lc rfl sc_dealt.nd rfl (i_bor (d_varb 1)) (blkOk_by (N := N_dealt) (sc := defScope s_dealt) (own := [("weight", 6)]) (by decide +kernel)) (fun _ _ _ _ _ => (gw_name 6 sc_dealt.nd)) (fun _ _ _ _ _ => ts_nil) (fun _ _ _ _ _ => d_int))))
      b_nil)
    (b_cons (s_ownLc 3 sc_dealt.nd rfl rfl (sw_true rfl rfl rfl (by decide +kernel)) (i_bor (d_varb 1)) (blkOk_by (N := N_dealt) (sc := defScope s_dealt) (own := [("weight", 6)]) (by decide +kernel)) (fun _ _ _ _ _ => (gw_name 6 sc_dealt.nd)) (fun _ _ _ _ _ => ts_nil) (fun _ _ _ _ _ => (d_op op_fdivW opf_fdiv (d_b (d_op op_mulAll opf_mulAll (d_varb 0) (d_varb 6))) (d_varb 2))))
    (b_cons (s_set 4 sc_dealt.nd (d_op op_sub opf_sub (d_varb 0) (d_b (d_callB (cr_sum rfl) cf_sum bor1 (by rfl) z_sum PyProof.Rows.boot_sum (a_cons (d_varb 3) a_nil)))))
    (b_cons (s_for PassesOwn.never rfl (i_enum (by rfl) z_enumerate (a_cons (d_varp 1) a_nil)) (g_tup rfl (gs_cons (g_name 5 sc_dealt.nd) (gs_cons (g_name 6 sc_dealt.nd) gs_nil)))
      (b_one (s_if (t_w (w_and (t_cmp op_gt (opf_cmpI _) (d_varb 6) (d_b d_int) (nomark _)) (w_and1 (t_cmp op_gt (opf_cmpI _) (d_varb 4) (d_b d_int) (nomark _)))))
        (b_cons (s_putOp 3 ip_add d_int (d_var 5))
        (b_one (s_augSub 4 sc_dealt.nd d_int)))
        b_nil)))
    (b_one (s_retOwn 3))))))))
theorem ok_shrink_widths {f : Addr} {fd : FuncData} (F : Fun K "shrink_widths" "shrink_widths" s_shrink_widths f fd) (C_dealt : Fn1 P w K mg base "dealt" ["amount", "weights"] 1 .new [.bor, .bor] F_dealt) (z_len : mg "len" = none) (z_list : mg "list" = none) (z_range : mg "range" = none) (z_sum : mg "sum" = none) (z_zip : mg "zip" = none) :
    FnOk P w K mg base CX0 2 f fd ["missing", "bases", "weights", "limits"] (spD K .new [.val, .bor, .bor, .bor] F_shrink_widths) :=
  fn_okB (b := B_shrink_widths) F sc_shrink_widths rfl rfl (am_val (am_bor (am_bor (am_bor am_nil)))) (fun cdv A outer s H E hr =>
    (b_cons (s_own 4 sc_shrink_widths.nd (d_callTy call_list_of cf_list bor1 (by rfl) z_list PyProof.Rows.boot_list (a_cons (d_varb 1) a_nil)))
    (b_cons (s_own 5 sc_shrink_widths.nd (d_lc rfl sc_shrink_widths.nd rfl (i_zip (by rfl) z_zip (a_cons (d_varp 2) (a_cons (d_varp 1) a_nil))) (blkOk_by (N := N_shrink_widths) (sc := defScope s_shrink_widths) (own := [("weight", 9), ("base", 10)]) (by decide +kernel)) (fun _ _ _ _ _ => (gw_tup rfl (gws_cons (gw_name 9 sc_shrink_widths.nd) (gws_cons (gw_name 10 sc_shrink_widths.nd) gws_nil)))) (fun _ _ _ _ _ => ts_nil) (fun _ _ _ _ _ => (d_op op_mulAll opf_mulAll (d_varb 9) (d_varb 10)))))
    (b_cons (s_while 100000 PassesOwn.never (t_cmp op_gt (opf_cmpI _) (d_b (d_callB (cr_sum rfl) cf_sum bor1 (by rfl) z_sum PyProof.Rows.boot_sum (a_cons (d_varb 5) a_nil))) (d_b d_int) (nomark _))
      (b_cons (s_set 6 sc_shrink_widths.nd (d_fz (d_fn C_dealt (hr.mono (by decide)) (a_cons (d_varb 0) (a_cons (d_varb 5) a_nil)) (am_bor (am_bor am_nil)))))
      (b_cons (s_setLc 7 sc_shrink_widths.nd rfl rfl (sw_true rfl rfl rfl (by decide +kernel)) (i_range1 (by rfl) z_range (a_cons (d_callB call_len cf_len bor1 (by rfl) z_len PySem.boot_len (a_cons (d_varb 1) a_nil)) a_nil)) (blkOk_by (N := N_shrink_widths) (sc := defScope s_shrink_widths) (own := [("k", 8)]) (by decide +kernel)) (fun _ _ _ _ _ => (gw_name 8 sc_shrink_widths.nd)) (fun _ _ _ _ _ => (ts_one (t_w (w_and (t_cmp op_gt (opf_cmpI _) (d_b (d_ix (d_varb 5) (d_varb 8))) (d_b d_int) (nomark _)) (w_and1 (t_cmp op_lt (opf_cmpI _) (d_b (d_op op_sub opf_sub (d_b (d_ix (d_varb 1) (d_varb 8))) (d_b (d_ix (d_varb 6) (d_varb 8))))) (d_b (d_ix (d_varb 3) (d_varb 8))) (nomark _))))))) (fun _ _ _ _ _ => (d_var 8)))
      (b_cons (s_if (t_not (t_val (d_varb 7)))
        (b_one (s_fz 4 (s_ret (d_lc rfl sc_shrink_widths.nd rfl (i_zip (by rfl) z_zip (a_cons (d_vp (d_var 4)) (a_cons (d_varp 6) a_nil))) (blkOk_by (N := N_shrink_widths) (sc := defScope s_shrink_widths) (own := [("width", 11), ("share", 12)]) (by decide +kernel)) (fun _ _ _ _ _ => (gw_tup rfl (gws_cons (gw_name 11 sc_shrink_widths.nd) (gws_cons (gw_name 12 sc_shrink_widths.nd) gws_nil)))) (fun _ _ _ _ _ => ts_nil) (fun _ _ _ _ _ => (d_op op_sub opf_sub (d_varb 11) (d_varb 12)))))))
        b_nil)
      (b_one (s_for PassesOwn.never rfl (i_val (d_var 7)) (g_name 8 sc_shrink_widths.nd)
        (b_cons (s_put 4 (d_ix (d_varb 3) (d_varb 8)) (d_var 8))
        (b_cons (s_augSub 0 sc_shrink_widths.nd (d_op op_sub opf_sub (d_b (d_ix (d_varb 1) (d_varb 8))) (d_b (d_ix (d_varb 3) (d_varb 8)))))
        (b_one (s_put 5 d_int (d_var 8)))))))))))
    (b_one (s_retOwn 4))))))
theorem ok__law_round {f : Addr} {fd : FuncData} (F : Fun K "_law_round" "_law_round" s__law_round f fd) (z_enumerate : mg "enumerate" = none) (z_len : mg "len" = none) (z_range : mg "range" = none) (z_sum : mg "sum" = none) :
    FnOk P w K mg base CX0 1 f fd ["missing", "rows", "settled"] (spD K .new [.val, .bor, .bor] F__law_round) :=
  fn_okB (b := B__law_round) F sc__law_round rfl rfl (am_val (am_bor (am_bor am_nil))) (fun cdv A outer s H E hr =>
    (b_cons (s_set 3 sc__law_round.nd (d_callB (cr_sum rfl) cf_sum bor1 (by rfl) z_sum PyProof.Rows.boot_sum (a_cons (d_b (d_lc rfl sc__law_round.nd rfl (i_enum (by rfl) z_enumerate (a_cons (d_varp 1) a_nil)) (blkOk_by (N := N__law_round) (sc := defScope s__law_round) (own := [("k", 6), ("row", 7)]) (by decide +kernel)) (fun _ _ _ _ _ => (gw_tup rfl (gws_cons (gw_name 6 sc__law_round.nd) (gws_cons (gw_name 7 sc__law_round.nd) gws_nil)))) (fun _ _ _ _ _ => (ts_one (t_not (t_val (d_b (d_ix (d_varb 2) (d_varb 6))))))) (fun _ _ _ _ _ => (d_ix (d_varb 7) (d_b d_int))))) a_nil)))
    (b_cons (s_ownLc 4 sc__law_round.nd rfl rfl (sw_true rfl rfl rfl (by decide +kernel)) (i_bor (d_varb 1)) (blkOk_by (N := N__law_round) (sc := defScope s__law_round) (own := [("row", 7)]) (by decide +kernel)) (fun _ _ _ _ _ => (gw_name 7 sc__law_round.nd)) (fun _ _ _ _ _ => ts_nil) (fun _ _ _ _ _ => d_int))
    (b_cons (s_set 5 sc__law_round.nd (d_var 0))
    (b_cons (s_for PassesOwn.never rfl (i_range1 (by rfl) z_range (a_cons (d_callB call_len cf_len bor1 (by rfl) z_len PySem.boot_len (a_cons (d_varb 1) a_nil)) a_nil)) (g_name 6 sc__law_round.nd)
      (b_one (s_if (t_not (t_val (d_b (d_ix (d_varb 2) (d_varb 6)))))
        (b_cons (s_put 4 (d_op op_fdivW opf_fdiv (d_b (d_op op_mulAll opf_mulAll (d_varb 0) (d_b (d_ix (d_b (d_ix (d_varb 1) (d_varb 6))) (d_b d_int))))) (d_varb 3)) (d_var 6))
        (b_one (s_set 5 sc__law_round.nd (d_op op_sub opf_sub (d_varb 5) (d_b (d_ix (d_varb 4) (d_varb 6)))))))
        b_nil)))
    (b_cons (s_for PassesOwn.never rfl (i_range1 (by rfl) z_range (a_cons (d_callB call_len cf_len bor1 (by rfl) z_len PySem.boot_len (a_cons (d_varb 1) a_nil)) a_nil)) (g_name 6 sc__law_round.nd)
      (b_one (s_if (t_w (w_and (t_cmp op_gt (opf_cmpI _) (d_varb 5) (d_b d_int) (nomark _)) (w_and1 (t_not (t_val (d_b (d_ix (d_varb 2) (d_varb 6))))))))
        (b_cons (s_put 4 (d_op op_addAll opf_addAll (d_b (d_ix (d_varb 4) (d_varb 6))) (d_b d_int)) (d_var 6))
        (b_one (s_set 5 sc__law_round.nd (d_op op_sub opf_sub (d_varb 5) (d_b d_int)))))
        b_nil)))
    (b_one (s_retOwn 4))))))))
theorem ok__law_due {f : Addr} {fd : FuncData} (F : Fun K "_law_due" "_law_due" s__law_due f fd) (C__law_round : Fn1 P w K mg base "_law_round" ["missing", "rows", "settled"] 1 .new [.val, .bor, .bor] F__law_round) (z_len : mg "len" = none) (z_range : mg "range" = none) (z_zip : mg "zip" = none) :
    FnOk P w K mg base CX0 2 f fd ["missing", "rows"] (spD K .new [.val, .bor] F__law_due) :=
  fn_okB (b := B__law_due) F sc__law_due rfl rfl (am_val (am_bor am_nil)) (fun cdv A outer s H E hr =>
    (b_cons (s_own 2 sc__law_due.nd (d_lc rfl sc__law_due.nd rfl (i_bor (d_varb 1)) (blkOk_by (N := N__law_due) (sc := defScope s__law_due) (own := [("row", 8)]) (by decide +kernel)) (fun _ _ _ _ _ => (gw_name 8 sc__law_due.nd)) (fun _ _ _ _ _ => ts_nil) (fun _ _ _ _ _ => (d_cmp (op_eqD hr.units) opf_eq (d_b (d_ix (d_varb 8) (d_b d_int))) (d_b d_int) (nomark _)))))
    (b_cons (s_ownLc 3 sc__law_due.nd rfl rfl (sw_true rfl rfl rfl (by decide +kernel)) (i_bor (d_varb 1)) (blkOk_by (N := N__law_due) (sc := defScope s__law_due) (own := [("row", 8)]) (by decide +kernel)) (fun _ _ _ _ _ => (gw_name 8 sc__law_due.nd)) (fun _ _ _ _ _ => ts_nil) (fun _ _ _ _ _ => (d_ix (d_varb 8) (d_b d_int))))
    (b_cons (s_for PassesOwn.never rfl (i_range1 (by rfl) z_range (a_cons (d_op op_addAll opf_addAll (d_b (d_callB call_len cf_len bor1 (by rfl) z_len PySem.boot_len (a_cons (d_varb 1) a_nil))) (d_b d_int)) a_nil)) (g_name 4 sc__law_due.nd)
      (b_cons (s_if (t_cmp (op_notInA (units65 hr)) opf_notIn (d_b d_bl) (d_varb 2) (by with_unfolding_all rfl))
        (b_one (s_retOwn 3))
        b_nil)
      (b_cons (s_set 5 sc__law_due.nd (d_fz (d_fn C__law_round (hr.mono (by decide)) (a_cons (d_var 0) (a_cons (d_varb 1) (a_cons (d_varb 2) a_nil))) (am_val (am_bor (am_bor am_nil))))))
      (b_cons (s_setLc 6 sc__law_due.nd rfl rfl (sw_true rfl rfl rfl (by decide +kernel)) (i_range1 (by rfl) z_range (a_cons (d_callB call_len cf_len bor1 (by rfl) z_len PySem.boot_len (a_cons (d_varb 1) a_nil)) a_nil)) (blkOk_by (N := N__law_due) (sc := defScope s__law_due) (own := [("k", 7)]) (by decide +kernel)) (fun _ _ _ _ _ => (gw_name 7 sc__law_due.nd)) (fun _ _ _ _ _ => (ts_one (t_w (w_and (t_not (t_val (d_b (d_ix (d_varb 2) (d_varb 7))))) (w_and1 (t_cmp op_lt (opf_cmpI _) (d_b (d_op op_sub opf_sub (d_b (d_ix (d_b (d_ix (d_varb 1) (d_varb 7))) (d_b d_int))) (d_b (d_ix (d_varb 5) (d_varb 7))))) (d_b (d_ix (d_b (d_ix (d_varb 1) (d_varb 7))) (d_b d_int))) (nomark _))))))) (fun _ _ _ _ _ => (d_var 7)))
      (b_cons (s_if (t_cmp (op_eqD hr.units) opf_eq (d_b (d_callB call_len cf_len bor1 (by rfl) z_len PySem.boot_len (a_cons (d_varb 6) a_nil))) (d_b d_int) (nomark _))
        (b_one (s_fz 3 (s_ret (d_lc rfl sc__law_due.nd rfl (i_zip (by rfl) z_zip (a_cons (d_vp (d_var 3)) (a_cons (d_varp 5) a_nil))) (blkOk_by (N := N__law_due) (sc := defScope s__law_due) (own := [("width", 9), ("share", 10)]) (by decide +kernel)) (fun _ _ _ _ _ => (gw_tup rfl (gws_cons (gw_name 9 sc__law_due.nd) (gws_cons (gw_name 10 sc__law_due.nd) gws_nil)))) (fun _ _ _ _ _ => ts_nil) (fun _ _ _ _ _ => (d_op op_sub opf_sub (d_varb 9) (d_varb 10)))))))
        b_nil)
      (b_one (s_for PassesOwn.never rfl (i_val (d_var 6)) (g_name 7 sc__law_due.nd)
        (b_cons (s_put 2 d_bl (d_var 7))
        (b_cons (s_put 3 (d_ix (d_b (d_ix (d_varb 1) (d_varb 7))) (d_b d_int)) (d_var 7))
        (b_one (s_set 0 sc__law_due.nd (d_op op_sub opf_sub (d_varb 0) (d_b (d_op op_sub opf_sub (d_b (d_ix (d_b (d_ix (d_varb 1) (d_varb 7))) (d_b d_int))) (d_b (d_ix (d_b (d_ix (d_varb 1) (d_varb 7))) (d_b d_int)))))))))))))))))
    (b_one (s_retOwn 3))))))
theorem ok__law_is_integer {f : Addr} {fd : FuncData} (F : Fun K "_law_is_integer" "_law_is_integer" s__law_is_integer f fd) (z_bool : mg "bool" = none) (z_int : mg "int" = none) (z_isinstance : mg "isinstance" = none) :
    FnOk P w K mg base CX0 1 f fd ["value"] (spD K .val [.bor] F__law_is_integer) :=
  fn_okB (b := B__law_is_integer) F sc__law_is_integer rfl rfl (am_bor am_nil) (fun cdv A outer s H E hr =>
    (b_one (s_ret (d_and (d_isi (by rfl) z_isinstance (d_varb 0) (by rfl) z_int PyProof.Rows.boot_int okT_int (by decide +kernel)) (d_one (d_not (d_b (d_isi (by rfl) z_isinstance (d_varb 0) (by rfl) z_bool (by decide +kernel) okT_bool (by decide +kernel)))))))))
theorem ok__law_is_even {f : Addr} {fd : FuncData} (F : Fun K "_law_is_even" "_law_is_even" s__law_is_even f fd) (z_len : mg "len" = none) (z_range : mg "range" = none) :
    FnOk P w K mg base CX0 1 f fd ["losses", "rows"] (spD K .val [.bor, .bor] F__law_is_even) :=
  fn_okB (b := B__law_is_even) F sc__law_is_even rfl rfl (am_bor (am_bor am_nil)) (fun cdv A outer s H E hr =>
    (b_cons (s_setLc 2 sc__law_is_even.nd rfl rfl (sw_true rfl rfl rfl (by decide +kernel)) (i_range1 (by rfl) z_range (a_cons (d_callB call_len cf_len bor1 (by rfl) z_len PySem.boot_len (a_cons (d_varb 1) a_nil)) a_nil)) (blkOk_by (N := N__law_is_even) (sc := defScope s__law_is_even) (own := [("k", 3)]) (by decide +kernel)) (fun _ _ _ _ _ => (gw_name 3 sc__law_is_even.nd)) (fun _ _ _ _ _ => (ts_one (t_w (w_and (t_cmp op_gt (opf_cmpI _) (d_b (d_ix (d_b (d_ix (d_varb 1) (d_varb 3))) (d_b d_int))) (d_b d_int) (nomark _)) (w_and1 (t_cmp op_lt (opf_cmpI _) (d_b (d_ix (d_varb 0) (d_varb 3))) (d_b (d_op op_sub opf_sub (d_b (d_ix (d_b (d_ix (d_varb 1) (d_varb 3))) (d_b d_int))) (d_b (d_ix (d_b (d_ix (d_varb 1) (d_varb 3))) (d_b d_int))))) (nomark _))))))) (fun _ _ _ _ _ => (d_var 3)))
    (b_cons (s_for PassesOwn.never rfl (i_val (d_var 2)) (g_name 3 sc__law_is_even.nd)
      (b_one (s_for PassesOwn.never rfl (i_range1 (by rfl) z_range (a_cons (d_callB call_len cf_len bor1 (by rfl) z_len PySem.boot_len (a_cons (d_varb 1) a_nil)) a_nil)) (g_name 4 sc__law_is_even.nd)
        (b_one (s_if (t_w (w_and (t_cmp op_gt (opf_cmpI _) (d_b (d_ix (d_b (d_ix (d_varb 1) (d_varb 4))) (d_b d_int))) (d_b d_int) (nomark _)) (w_and1 (t_cmp op_ge (opf_cmpI _) (d_b (d_op op_sub opf_sub (d_b (d_op op_mulAll opf_mulAll (d_b (d_ix (d_varb 0) (d_varb 4))) (d_b (d_ix (d_b (d_ix (d_varb 1) (d_varb 3))) (d_b d_int))))) (d_b (d_op op_mulAll opf_mulAll (d_b (d_ix (d_varb 0) (d_varb 3))) (d_b (d_ix (d_b (d_ix (d_varb 1) (d_varb 4))) (d_b d_int))))))) (d_b (d_op op_addAll opf_addAll (d_b (d_ix (d_b (d_ix (d_varb 1) (d_varb 3))) (d_b d_int))) (d_b (d_ix (d_b (d_ix (d_varb 1) (d_varb 4))) (d_b d_int))))) (nomark _)))))
          (b_one (s_ret d_bl))
          b_nil)))))
    (b_one (s_ret d_bl)))))
theorem ok_law {f : Addr} {fd : FuncData} (F : Fun K "law" "law" s_law f fd) (C__law_source : Fn1 P w K mg base "_law_source" ["cell"] 2 .val [.bor] F__law_source) (C__law_cell : Fn1 P w K mg base "_law_cell" ["script", "k"] 1 .val [.scr, .val] F__law_cell) (C__law_child : Fn1 P w K mg base "_law_child" ["number", "scale"] 2 .val [.bor, .bor] F__law_child) (C__law_mixed : Fn1 P w K mg base "_law_mixed" ["cell"] 1 .val [.bor] F__law_mixed) (C_shrink_widths : Fn1 P w K mg base "shrink_widths" ["missing", "bases", "weights", "limits"] 2 .new [.val, .bor, .bor, .bor] F_shrink_widths) (C__law_due : Fn1 P w K mg base "_law_due" ["missing", "rows"] 2 .new [.val, .bor] F__law_due) (C__law_is_integer : Fn1 P w K mg base "_law_is_integer" ["value"] 1 .val [.bor] F__law_is_integer) (C__law_is_even : Fn1 P w K mg base "_law_is_even" ["losses", "rows"] 1 .val [.bor, .bor] F__law_is_even) (z_int : mg "int" = none) (z_isinstance : mg "isinstance" = none) (z_len : mg "len" = none) (z_list : mg "list" = none) (z_max : mg "max" = none) (z_min : mg "min" = none) (z_range : mg "range" = none) (z_sum : mg "sum" = none) :
    FnOk P w K mg base CX0 3 f fd ["script"] (spD K .val [.scr] F_law) :=
  fn_okB (b := B_law) F sc_law rfl rfl (am_scr am_nil) (fun cdv A outer s H E hr =>
    (b_cons (s_set 1 sc_law.nd (d_fn C__law_source (hr.mono (by decide)) (a_cons (d_b (d_fn C__law_cell (hr.mono (by decide)) (a_cons (d_vars 0) (a_cons d_int a_nil)) (am_scr (am_val am_nil)))) a_nil) (am_bor am_nil)))
    (b_cons (s_set 2 sc_law.nd (d_fn C__law_source (hr.mono (by decide)) (a_cons (d_b (d_fn C__law_cell (hr.mono (by decide)) (a_cons (d_vars 0) (a_cons d_int a_nil)) (am_scr (am_val am_nil)))) a_nil) (am_bor am_nil)))
    (b_cons (s_set 3 sc_law.nd (d_ix (d_b (d_lst (a_cons d_int (a_cons d_int (a_cons d_int (a_cons (d_op op_pow (opf_intIf _ _) (d_b d_int) (d_b d_int)) a_nil)))) (v_cons (v_cons (v_cons (v_cons v_nil)))))) (d_b (d_op op_mod (opf_intIf _ _) (d_b (d_callTy call_int1 cf_int bor1 (by rfl) z_int PyProof.Rows.boot_int (a_cons (d_varb 1) a_nil))) (d_b d_int)))))
    (b_cons (s_ownLc 4 sc_law.nd rfl rfl (sw_true rfl rfl rfl (by decide +kernel)) (i_range1 (by rfl) z_range (a_cons (d_op op_mod (opf_intIf _ _) (d_b (d_callTy call_int1 cf_int bor1 (by rfl) z_int PyProof.Rows.boot_int (a_cons (d_varb 2) a_nil))) (d_b d_int)) a_nil)) (blkOk_by (N := N_law) (sc := defScope s_law) (own := [("k", 15)]) (by decide +kernel)) (fun _ _ _ _ _ => (gw_name 15 sc_law.nd)) (fun _ _ _ _ _ => ts_nil) (fun _ _ _ _ _ => (d_fn C__law_child (hr.mono (by decide)) (a_cons (d_b (d_fn C__law_mixed (hr.mono (by decide)) (a_cons (d_b (d_op op_addAll opf_addAll (d_varb 2) (d_b (d_op op_mulAll opf_mulAll (d_b d_int) (d_varb 15))))) a_nil) (am_bor am_nil))) (a_cons (d_varb 3) a_nil)) (am_bor (am_bor am_nil)))))
    (b_cons (s_for PassesOwn.never rfl (i_val (d_fz (d_sliceS (d_vars 0) (o_so d_int) (o_so d_int)))) (g_name 5 sc_law.nd)
      (b_one (s_app 4 (d_fn C__law_child (hr.mono (by decide)) (a_cons (d_b (d_fn C__law_source (hr.mono (by decide)) (a_cons (d_varb 5) a_nil) (am_bor am_nil))) (a_cons (d_varb 3) a_nil)) (am_bor (am_bor am_nil))))))
    (b_cons (s_set 6 sc_law.nd (d_fz (d_lc rfl sc_law.nd rfl (i_bor (d_varb 4)) (blkOk_by (N := N_law) (sc := defScope s_law) (own := [("row", 17)]) (by decide +kernel)) (fun _ _ _ _ _ => (gw_name 17 sc_law.nd)) (fun _ _ _ _ _ => ts_nil) (fun _ _ _ _ _ => (d_ix (d_varb 17) (d_b d_int))))))
    (b_cons (s_setLc 7 sc_law.nd rfl rfl (sw_true rfl rfl rfl (by decide +kernel)) (i_bor (d_varb 4)) (blkOk_by (N := N_law) (sc := defScope s_law) (own := [("row", 17)]) (by decide +kernel)) (fun _ _ _ _ _ => (gw_name 17 sc_law.nd)) (fun _ _ _ _ _ => ts_nil) (fun _ _ _ _ _ => (d_ix (d_varb 17) (d_b d_int))))
    (b_cons (s_setLc 8 sc_law.nd rfl rfl (sw_true rfl rfl rfl (by decide +kernel)) (i_bor (d_varb 4)) (blkOk_by (N := N_law) (sc := defScope s_law) (own := [("row", 17)]) (by decide +kernel)) (fun _ _ _ _ _ => (gw_name 17 sc_law.nd)) (fun _ _ _ _ _ => ts_nil) (fun _ _ _ _ _ => (d_ix (d_varb 17) (d_b d_int))))
    (b_cons (s_set 9 sc_law.nd (d_callB (cr_sum rfl) cf_sum bor1 (by rfl) z_sum PyProof.Rows.boot_sum (a_cons (d_b (d_lc rfl sc_law.nd rfl (i_bor (d_varb 4)) (blkOk_by (N := N_law) (sc := defScope s_law) (own := [("row", 17)]) (by decide +kernel)) (fun _ _ _ _ _ => (gw_name 17 sc_law.nd)) (fun _ _ _ _ _ => (ts_one (t_cmp op_gt (opf_cmpI _) (d_b (d_ix (d_varb 17) (d_b d_int))) (d_b d_int) (nomark _)))) (fun _ _ _ _ _ => (d_op op_sub opf_sub (d_b (d_ix (d_varb 17) (d_b d_int))) (d_b (d_ix (d_varb 17) (d_b d_int))))))) a_nil)))
    (b_cons (s_set 10 sc_law.nd (d_callB (call_max2 rfl) cf_max2 bor2 (by rfl) z_max PyProof.Rows.boot_max (a_cons (d_b d_int) (a_cons (d_b (d_ix (d_b (d_lst (a_cons (d_var 9) (a_cons (d_op op_addAll opf_addAll (d_varb 9) (d_b d_int)) (a_cons (d_op op_sub opf_sub (d_varb 9) (d_b d_int)) (a_cons (d_op op_mod (opf_intIf _ _) (d_b (d_callTy call_int1 cf_int bor1 (by rfl) z_int PyProof.Rows.boot_int (a_cons (d_b (d_op op_fdivW opf_fdiv (d_varb 1) (d_b d_int))) a_nil))) (d_b (d_op op_addAll opf_addAll (d_b (d_op op_mulAll opf_mulAll (d_b d_int) (d_varb 9))) (d_b d_int)))) a_nil)))) (v_cons (v_cons (v_cons (v_cons v_nil)))))) (d_b (d_op op_mod (opf_intIf _ _) (d_b (d_callTy call_int1 cf_int bor1 (by rfl) z_int PyProof.Rows.boot_int (a_cons (d_b (d_op op_fdivW opf_fdiv (d_varb 1) (d_b d_int))) a_nil))) (d_b d_int))))) a_nil))))
    (b_cons (s_set 11 sc_law.nd (d_fz (d_lst (a_cons (d_fz (d_callTy call_list_of cf_list bor1 (by rfl) z_list PyProof.Rows.boot_list (a_cons (d_varb 6) a_nil))) (a_cons (d_fz (d_callTy call_list_of cf_list bor1 (by rfl) z_list PyProof.Rows.boot_list (a_cons (d_varb 7) a_nil))) (a_cons (d_fz (d_callTy call_list_of cf_list bor1 (by rfl) z_list PyProof.Rows.boot_list (a_cons (d_varb 8) a_nil))) a_nil))) (v_cons (v_cons (v_cons v_nil))))))
    (b_cons (s_own 12 sc_law.nd (d_fn C_shrink_widths (hr.mono (by decide)) (a_cons (d_var 10) (a_cons (d_b (d_ix (d_varb 11) (d_b d_int))) (a_cons (d_b (d_ix (d_varb 11) (d_b d_int))) (a_cons (d_b (d_ix (d_varb 11) (d_b d_int))) a_nil)))) (am_val (am_bor (am_bor (am_bor am_nil))))))
    (b_cons (s_if (t_cmp (op_neD hr.units) opf_ne (d_varb 11) (d_b (d_lst (a_cons (d_var 6) (a_cons (d_var 7) (a_cons (d_var 8) a_nil))) (v_cons (v_cons (v_cons v_nil))))) (nomark _))
      (b_one (s_ret d_bl))
      b_nil)
    (b_cons (s_if (t_w (w_or (t_not (t_val (d_b (d_isi (by rfl) z_isinstance (d_varb 12) (by rfl) z_list PyProof.Rows.boot_list okT_list (by decide +kernel))))) (w_or (t_cmp (op_neD hr.units) opf_ne (d_b (d_callB call_len cf_len bor1 (by rfl) z_len PySem.boot_len (a_cons (d_varb 12) a_nil))) (d_b (d_callB call_len cf_len bor1 (by rfl) z_len PySem.boot_len (a_cons (d_varb 4) a_nil))) (nomark _)) (w_or1 (t_cmp (op_neD hr.units) opf_ne (d_varb 12) (d_b (d_fn C__law_due (hr.mono (by decide)) (a_cons (d_var 10) (a_cons (d_varb 4) a_nil)) (am_val (am_bor am_nil)))) (nomark _))))))
      (b_one (s_ret d_bl))
      b_nil)
    (b_cons (s_forOwn 12 PassesOwn.never rfl (g_name 13 sc_law.nd)
      (b_one (s_if (t_not (t_val (d_b (d_fn C__law_is_integer (hr.mono (by decide)) (a_cons (d_varb 13) a_nil) (am_bor am_nil)))))
        (b_one (s_ret d_bl))
        b_nil)))
    (b_cons (s_setLc 14 sc_law.nd rfl rfl (sw_true rfl rfl rfl (by decide +kernel)) (i_range1 (by rfl) z_range (a_cons (d_callB call_len cf_len bor1 (by rfl) z_len PySem.boot_len (a_cons (d_varb 4) a_nil)) a_nil)) (blkOk_by (N := N_law) (sc := defScope s_law) (own := [("k", 15)]) (by decide +kernel)) (fun _ _ _ _ _ => (gw_name 15 sc_law.nd)) (fun _ _ _ _ _ => ts_nil) (fun _ _ _ _ _ => (d_op op_sub opf_sub (d_b (d_ix (d_varb 6) (d_varb 15))) (d_b (d_ix (d_varb 12) (d_varb 15))))))
    (b_cons (s_if (t_cmp (op_neD hr.units) opf_ne (d_b (d_callB (cr_sum rfl) cf_sum bor1 (by rfl) z_sum PyProof.Rows.boot_sum (a_cons (d_varb 14) a_nil))) (d_b (d_callB (call_min2 rfl) cf_min2 bor2 (by rfl) z_min PyProof.Rows.boot_min (a_cons (d_varb 10) (a_cons (d_varb 9) a_nil)))) (nomark _))
      (b_one (s_ret d_bl))
      b_nil)
    (b_cons (s_for PassesOwn.never rfl (i_range1 (by rfl) z_range (a_cons (d_callB call_len cf_len bor1 (by rfl) z_len PySem.boot_len (a_cons (d_varb 4) a_nil)) a_nil)) (g_name 15 sc_law.nd)
      (b_one (s_if (t_w (w_or (t_cmp op_lt (opf_cmpI _) (d_b (d_ix (d_varb 14) (d_varb 15))) (d_b d_int) (nomark _)) (w_or (t_cmp op_lt (opf_cmpI _) (d_b (d_ix (d_varb 12) (d_varb 15))) (d_b (d_ix (d_varb 8) (d_varb 15))) (nomark _)) (w_or1 (t_w (w_and (t_cmp (op_eqD hr.units) opf_eq (d_b (d_ix (d_b (d_ix (d_varb 4) (d_varb 15))) (d_b d_int))) (d_b d_int) (nomark _)) (w_and1 (t_cmp (op_neD hr.units) opf_ne (d_b (d_ix (d_varb 14) (d_varb 15))) (d_b d_int) (nomark _)))))))))
        (b_one (s_ret d_bl))
        b_nil)))
    (b_cons (s_set 16 sc_law.nd (d_fz (d_callTy call_list_of cf_list bor1 (by rfl) z_list PyProof.Rows.boot_list (a_cons (d_varb 12) a_nil))))
    (b_cons (s_app 12 (d_un un_neg unf_neg (d_b d_int)))
    (b_cons (s_if (t_cmp (op_neD hr.units) opf_ne (d_b (d_fn C_shrink_widths (hr.mono (by decide)) (a_cons (d_var 10) (a_cons (d_b (d_ix (d_varb 11) (d_b d_int))) (a_cons (d_b (d_ix (d_varb 11) (d_b d_int))) (a_cons (d_b (d_ix (d_varb 11) (d_b d_int))) a_nil)))) (am_val (am_bor (am_bor (am_bor am_nil)))))) (d_varb 16) (nomark _))
      (b_one (s_ret d_bl))
      b_nil)
    (b_cons (s_if (t_cmp (op_neD hr.units) opf_ne (d_b (d_op op_sub opf_sub (d_b (d_callB (cr_sum rfl) cf_sum bor1 (by rfl) z_sum PyProof.Rows.boot_sum (a_cons (d_varb 6) a_nil))) (d_b (d_callB (cr_sum rfl) cf_sum bor1 (by rfl) z_sum PyProof.Rows.boot_sum (a_cons (d_b (d_fn C_shrink_widths (hr.mono (by decide)) (a_cons (d_op op_addAll opf_addAll (d_varb 10) (d_b d_int)) (a_cons (d_b (d_ix (d_varb 11) (d_b d_int))) (a_cons (d_b (d_ix (d_varb 11) (d_b d_int))) (a_cons (d_b (d_ix (d_varb 11) (d_b d_int))) a_nil)))) (am_val (am_bor (am_bor (am_bor am_nil)))))) a_nil))))) (d_b (d_callB (call_min2 rfl) cf_min2 bor2 (by rfl) z_min PyProof.Rows.boot_min (a_cons (d_b (d_op op_addAll opf_addAll (d_varb 10) (d_b d_int))) (a_cons (d_varb 9) a_nil)))) (nomark _))
      (b_one (s_ret d_bl))
      b_nil)
    (b_one (s_ret (d_and (d_cmp (op_eqD hr.units) opf_eq (d_varb 11) (d_b (d_lst (a_cons (d_var 6) (a_cons (d_var 7) (a_cons (d_var 8) a_nil))) (v_cons (v_cons (v_cons v_nil))))) (nomark _)) (d_one (d_fn C__law_is_even (hr.mono (by decide)) (a_cons (d_varb 14) (a_cons (d_varb 4) a_nil)) (am_bor (am_bor am_nil))))))))))))))))))))))))))))))
end
/-! ### what the top has written -/
theorem all_mk {l : PySem.W.OpenLaw} {w : World} {K : PySem.W.Frag} {h : Heap} {mg : Str → Option Value} {fa : Addr} (X : K.In h) (G : h.Ns mainGlobals mg) (hfa : mg "law" = some (.ref fa))
    {f0 : Addr} {od0 an0 : Option Addr} {sl0 : Array (Option Value)} {oc0 kV0 dc0 pm0 cd0 ct0 : Value}
    {f1 : Addr} {od1 an1 : Option Addr} {sl1 : Array (Option Value)} {oc1 kV1 dc1 pm1 cd1 ct1 : Value}
    {f2 : Addr} {od2 an2 : Option Addr} {sl2 : Array (Option Value)} {oc2 kV2 dc2 pm2 cd2 ct2 : Value}
    {f3 : Addr} {od3 an3 : Option Addr} {sl3 : Array (Option Value)} {oc3 kV3 dc3 pm3 cd3 ct3 : Value}
    {f4 : Addr} {od4 an4 : Option Addr} {sl4 : Array (Option Value)} {oc4 kV4 dc4 pm4 cd4 ct4 : Value}
    {f5 : Addr} {od5 an5 : Option Addr} {sl5 : Array (Option Value)} {oc5 kV5 dc5 pm5 cd5 ct5 : Value}
    {f6 : Addr} {od6 an6 : Option Addr} {sl6 : Array (Option Value)} {oc6 kV6 dc6 pm6 cd6 ct6 : Value}
    {f7 : Addr} {od7 an7 : Option Addr} {sl7 : Array (Option Value)} {oc7 kV7 dc7 pm7 cd7 ct7 : Value}
    {f8 : Addr} {od8 an8 : Option Addr} {sl8 : Array (Option Value)} {oc8 kV8 dc8 pm8 cd8 ct8 : Value}
    {f9 : Addr} {od9 an9 : Option Addr} {sl9 : Array (Option Value)} {oc9 kV9 dc9 pm9 cd9 ct9 : Value}
    {f10 : Addr} {od10 an10 : Option Addr} {sl10 : Array (Option Value)} {oc10 kV10 dc10 pm10 cd10 ct10 : Value}
    (a0 : PySem.W.nsIn K mainGlobals "_law_mixed" = some (some (.ref f0))) (l0 : K.lookup f0 = some ⟨oc0, od0, .func (PySem.W.fnOf "_law_mixed" "_law_mixed" (defArgs s__law_mixed) (defBody s__law_mixed) (defScope s__law_mixed) .none kV0 dc0 pm0 an0 cd0 ct0), sl0⟩) (c0 : PySem.W.codeIn K cd0 "_law_mixed" = true) (k0 : PySem.W.keepIn K (.ref f0) = true)
    (a1 : PySem.W.nsIn K mainGlobals "_law_source" = some (some (.ref f1))) (l1 : K.lookup f1 = some ⟨oc1, od1, .func (PySem.W.fnOf "_law_source" "_law_source" (defArgs s__law_source) (defBody s__law_source) (defScope s__law_source) .none kV1 dc1 pm1 an1 cd1 ct1), sl1⟩) (c1 : PySem.W.codeIn K cd1 "_law_source" = true) (k1 : PySem.W.keepIn K (.ref f1) = true)
    (a2 : PySem.W.nsIn K mainGlobals "_law_cell" = some (some (.ref f2))) (l2 : K.lookup f2 = some ⟨oc2, od2, .func (PySem.W.fnOf "_law_cell" "_law_cell" (defArgs s__law_cell) (defBody s__law_cell) (defScope s__law_cell) .none kV2 dc2 pm2 an2 cd2 ct2), sl2⟩) (c2 : PySem.W.codeIn K cd2 "_law_cell" = true) (k2 : PySem.W.keepIn K (.ref f2) = true)
    (a3 : PySem.W.nsIn K mainGlobals "_law_child" = some (some (.ref f3))) (l3 : K.lookup f3 = some ⟨oc3, od3, .func (PySem.W.fnOf "_law_child" "_law_child" (defArgs s__law_child) (defBody s__law_child) (defScope s__law_child) .none kV3 dc3 pm3 an3 cd3 ct3), sl3⟩) (c3 : PySem.W.codeIn K cd3 "_law_child" = true) (k3 : PySem.W.keepIn K (.ref f3) = true)
    (a4 : PySem.W.nsIn K mainGlobals "dealt" = some (some (.ref f4))) (l4 : K.lookup f4 = some ⟨oc4, od4, .func (PySem.W.fnOf "dealt" "dealt" (defArgs s_dealt) (defBody s_dealt) (defScope s_dealt) .none kV4 dc4 pm4 an4 cd4 ct4), sl4⟩) (c4 : PySem.W.codeIn K cd4 "dealt" = true) (k4 : PySem.W.keepIn K (.ref f4) = true)
    (a5 : PySem.W.nsIn K mainGlobals "shrink_widths" = some (some (.ref f5))) (l5 : K.lookup f5 = some ⟨oc5, od5, .func (PySem.W.fnOf "shrink_widths" "shrink_widths" (defArgs s_shrink_widths) (defBody s_shrink_widths) (defScope s_shrink_widths) .none kV5 dc5 pm5 an5 cd5 ct5), sl5⟩) (c5 : PySem.W.codeIn K cd5 "shrink_widths" = true) (k5 : PySem.W.keepIn K (.ref f5) = true)
    (a6 : PySem.W.nsIn K mainGlobals "_law_round" = some (some (.ref f6))) (l6 : K.lookup f6 = some ⟨oc6, od6, .func (PySem.W.fnOf "_law_round" "_law_round" (defArgs s__law_round) (defBody s__law_round) (defScope s__law_round) .none kV6 dc6 pm6 an6 cd6 ct6), sl6⟩) (c6 : PySem.W.codeIn K cd6 "_law_round" = true) (k6 : PySem.W.keepIn K (.ref f6) = true)
    (a7 : PySem.W.nsIn K mainGlobals "_law_due" = some (some (.ref f7))) (l7 : K.lookup f7 = some ⟨oc7, od7, .func (PySem.W.fnOf "_law_due" "_law_due" (defArgs s__law_due) (defBody s__law_due) (defScope s__law_due) .none kV7 dc7 pm7 an7 cd7 ct7), sl7⟩) (c7 : PySem.W.codeIn K cd7 "_law_due" = true) (k7 : PySem.W.keepIn K (.ref f7) = true)
    (a8 : PySem.W.nsIn K mainGlobals "_law_is_integer" = some (some (.ref f8))) (l8 : K.lookup f8 = some ⟨oc8, od8, .func (PySem.W.fnOf "_law_is_integer" "_law_is_integer" (defArgs s__law_is_integer) (defBody s__law_is_integer) (defScope s__law_is_integer) .none kV8 dc8 pm8 an8 cd8 ct8), sl8⟩) (c8 : PySem.W.codeIn K cd8 "_law_is_integer" = true) (k8 : PySem.W.keepIn K (.ref f8) = true)
    (a9 : PySem.W.nsIn K mainGlobals "_law_is_even" = some (some (.ref f9))) (l9 : K.lookup f9 = some ⟨oc9, od9, .func (PySem.W.fnOf "_law_is_even" "_law_is_even" (defArgs s__law_is_even) (defBody s__law_is_even) (defScope s__law_is_even) .none kV9 dc9 pm9 an9 cd9 ct9), sl9⟩) (c9 : PySem.W.codeIn K cd9 "_law_is_even" = true) (k9 : PySem.W.keepIn K (.ref f9) = true)
    (a10 : PySem.W.nsIn K mainGlobals "law" = some (some (.ref f10))) (l10 : K.lookup f10 = some ⟨oc10, od10, .func (PySem.W.fnOf "law" "law" (defArgs s_law) (defBody s_law) (defScope s_law) .none kV10 dc10 pm10 an10 cd10 ct10), sl10⟩) (c10 : PySem.W.codeIn K cd10 "law" = true) (k10 : PySem.W.keepIn K (.ref f10) = true)
    (z_int : PySem.W.nsIn K mainGlobals "int" = some none)
    (z_len : PySem.W.nsIn K mainGlobals "len" = some none)
    (z_max : PySem.W.nsIn K mainGlobals "max" = some none)
    (z_enumerate : PySem.W.nsIn K mainGlobals "enumerate" = some none)
    (z_sum : PySem.W.nsIn K mainGlobals "sum" = some none)
    (z_list : PySem.W.nsIn K mainGlobals "list" = some none)
    (z_range : PySem.W.nsIn K mainGlobals "range" = some none)
    (z_zip : PySem.W.nsIn K mainGlobals "zip" = some none)
    (z_bool : PySem.W.nsIn K mainGlobals "bool" = some none)
    (z_isinstance : PySem.W.nsIn K mainGlobals "isinstance" = some none)
    (z_min : PySem.W.nsIn K mainGlobals "min" = some none) :
    ∃ fd : FuncData, (∀ (s : Shared) (v : Value), BindsTo s fd ⟨[v], []⟩ [("script", v)]) ∧ ∀ base : Heap, K.In base → base.Ns mainGlobals mg → FnOk l.prog w K mg base CX0 3 fa fd ["script"] (spD K .val [.scr] F_law) := by
  have e := hfa.symm.trans (PySem.W.mg_of X G a10)
  cases e
  have F0 := fun_mk (st := s__law_mixed) l0 c0 k0
  have F1 := fun_mk (st := s__law_source) l1 c1 k1
  have F2 := fun_mk (st := s__law_cell) l2 c2 k2
  have F3 := fun_mk (st := s__law_child) l3 c3 k3
  have F4 := fun_mk (st := s_dealt) l4 c4 k4
  have F5 := fun_mk (st := s_shrink_widths) l5 c5 k5
  have F6 := fun_mk (st := s__law_round) l6 c6 k6
  have F7 := fun_mk (st := s__law_due) l7 c7 k7
  have F8 := fun_mk (st := s__law_is_integer) l8 c8 k8
  have F9 := fun_mk (st := s__law_is_even) l9 c9 k9
  have F10 := fun_mk (st := s_law) l10 c10 k10
  refine ⟨PySem.W.fnOf "law" "law" (defArgs s_law) (defBody s_law) (defScope s_law) .none kV10 dc10 pm10 an10 cd10 ct10, fun s v => .of_eq rfl, fun base _ _ => ?_⟩
  have C__law_mixed : Fn1 l.prog w K mg base "_law_mixed" ["cell"] 1 .val [.bor] F__law_mixed := ⟨_, _, ok__law_mixed F0 (PySem.W.mg_none_of X G z_int), PySem.W.mg_of X G a0, k0, F0.binds (ps := ["cell"]) fun _ _ _ _ _ _ us hl => match us, hl with | [_], _ => rfl⟩
  have C__law_source : Fn1 l.prog w K mg base "_law_source" ["cell"] 2 .val [.bor] F__law_source := ⟨_, _, ok__law_source F1 C__law_mixed, PySem.W.mg_of X G a1, k1, F1.binds (ps := ["cell"]) fun _ _ _ _ _ _ us hl => match us, hl with | [_], _ => rfl⟩
  have C__law_cell : Fn1 l.prog w K mg base "_law_cell" ["script", "k"] 1 .val [.scr, .val] F__law_cell := ⟨_, _, ok__law_cell F2 (PySem.W.mg_none_of X G z_len), PySem.W.mg_of X G a2, k2, F2.binds (ps := ["script", "k"]) fun _ _ _ _ _ _ us hl => match us, hl with | [_, _], _ => rfl⟩
  have C__law_child : Fn1 l.prog w K mg base "_law_child" ["number", "scale"] 2 .val [.bor, .bor] F__law_child := ⟨_, _, ok__law_child F3 C__law_mixed (PySem.W.mg_none_of X G z_int) (PySem.W.mg_none_of X G z_max), PySem.W.mg_of X G a3, k3, F3.binds (ps := ["number", "scale"]) fun _ _ _ _ _ _ us hl => match us, hl with | [_, _], _ => rfl⟩
  have C_dealt : Fn1 l.prog w K mg base "dealt" ["amount", "weights"] 1 .new [.bor, .bor] F_dealt := ⟨_, _, ok_dealt F4 (PySem.W.mg_none_of X G z_enumerate) (PySem.W.mg_none_of X G z_sum), PySem.W.mg_of X G a4, k4, F4.binds (ps := ["amount", "weights"]) fun _ _ _ _ _ _ us hl => match us, hl with | [_, _], _ => rfl⟩
  have C_shrink_widths : Fn1 l.prog w K mg base "shrink_widths" ["missing", "bases", "weights", "limits"] 2 .new [.val, .bor, .bor, .bor] F_shrink_widths := ⟨_, _, ok_shrink_widths F5 C_dealt (PySem.W.mg_none_of X G z_len) (PySem.W.mg_none_of X G z_list) (PySem.W.mg_none_of X G z_range) (PySem.W.mg_none_of X G z_sum) (PySem.W.mg_none_of X G z_zip), PySem.W.mg_of X G a5, k5, F5.binds (ps := ["missing", "bases", "weights", "limits"]) fun _ _ _ _ _ _ us hl => match us, hl with | [_, _, _, _], _ => rfl⟩
  have C__law_round : Fn1 l.prog w K mg base "_law_round" ["missing", "rows", "settled"] 1 .new [.val, .bor, .bor] F__law_round := ⟨_, _, ok__law_round F6 (PySem.W.mg_none_of X G z_enumerate) (PySem.W.mg_none_of X G z_len) (PySem.W.mg_none_of X G z_range) (PySem.W.mg_none_of X G z_sum), PySem.W.mg_of X G a6, k6, F6.binds (ps := ["missing", "rows", "settled"]) fun _ _ _ _ _ _ us hl => match us, hl with | [_, _, _], _ => rfl⟩
  have C__law_due : Fn1 l.prog w K mg base "_law_due" ["missing", "rows"] 2 .new [.val, .bor] F__law_due := ⟨_, _, ok__law_due F7 C__law_round (PySem.W.mg_none_of X G z_len) (PySem.W.mg_none_of X G z_range) (PySem.W.mg_none_of X G z_zip), PySem.W.mg_of X G a7, k7, F7.binds (ps := ["missing", "rows"]) fun _ _ _ _ _ _ us hl => match us, hl with | [_, _], _ => rfl⟩
  have C__law_is_integer : Fn1 l.prog w K mg base "_law_is_integer" ["value"] 1 .val [.bor] F__law_is_integer := ⟨_, _, ok__law_is_integer F8 (PySem.W.mg_none_of X G z_bool) (PySem.W.mg_none_of X G z_int) (PySem.W.mg_none_of X G z_isinstance), PySem.W.mg_of X G a8, k8, F8.binds (ps := ["value"]) fun _ _ _ _ _ _ us hl => match us, hl with | [_], _ => rfl⟩
  have C__law_is_even : Fn1 l.prog w K mg base "_law_is_even" ["losses", "rows"] 1 .val [.bor, .bor] F__law_is_even := ⟨_, _, ok__law_is_even F9 (PySem.W.mg_none_of X G z_len) (PySem.W.mg_none_of X G z_range), PySem.W.mg_of X G a9, k9, F9.binds (ps := ["losses", "rows"]) fun _ _ _ _ _ _ us hl => match us, hl with | [_, _], _ => rfl⟩
  exact ok_law F10 C__law_source C__law_cell C__law_child C__law_mixed C_shrink_widths C__law_due C__law_is_integer C__law_is_even (PySem.W.mg_none_of X G z_int) (PySem.W.mg_none_of X G z_isinstance) (PySem.W.mg_none_of X G z_len) (PySem.W.mg_none_of X G z_list) (PySem.W.mg_none_of X G z_max) (PySem.W.mg_none_of X G z_min) (PySem.W.mg_none_of X G z_range) (PySem.W.mg_none_of X G z_sum)
end Lw

namespace Lw
open PySem L2 DV
def onceV (c : Int) : Int := (c * 48271 + 12345) % 2147483647
def twiceV (c : Int) : Int := (onceV c * onceV c + 7 * onceV c + 3) % 2305843009213693951
def mixV (c : Int) : Int := (twiceV c * 16807 + 11) % 2305843009213693951
theorem onceV_b (c : Int) : 0 ≤ onceV c ∧ onceV c < 2147483647 := ⟨Int.emod_nonneg _ (by decide), Int.emod_lt_of_pos _ (by decide)⟩
theorem twiceV_b (c : Int) : 0 ≤ twiceV c ∧ twiceV c < 2305843009213693951 := ⟨Int.emod_nonneg _ (by decide), Int.emod_lt_of_pos _ (by decide)⟩
theorem mixV_b (c : Int) : 0 ≤ mixV c ∧ mixV c < 2305843009213693951 := ⟨Int.emod_nonneg _ (by decide), Int.emod_lt_of_pos _ (by decide)⟩
theorem mixed_eq (c : Int) : F__law_mixed [.int c] = some (.int (mixV c)) := by
  have h1 := onceV_b c
  have h2 := twiceV_b c
  refine box_rt rfl ?_
  unfold B__law_mixed
  rw [seq_nx (ρ' := [.bor (.int c), .val (.int (onceV c)), .un]) (by simp (disch := omega) [oMul_r]; rfl)]
  rw [seq_nx (ρ' := [.bor (.int c), .val (.int (onceV c)), .val (.int (twiceV c))]) (by simp (disch := omega) [oMul_r]; rfl)]
  simp (disch := omega) [oMul_r]; rfl
def srcV (c : Int) : Int := if 1000000000000000000 ≤ c then c - 1000000000000000000 else mixV c
theorem srcV_b (c : Int) : 0 ≤ srcV c := by
  unfold srcV
  have := mixV_b c
  split <;> omega
theorem source_eq (c : Int) : F__law_source [.int c] = some (.int (srcV c)) := by
  refine box_rt rfl ?_
  unfold srcV
  by_cases h : 1000000000000000000 ≤ c
  · simp (disch := omega) [B__law_source, h]
  · simp (disch := omega) [B__law_source, h, mixed_eq]
def cellV (ns : List Int) (k : Nat) : Int := ns.getD k 0
theorem cell_eq (ns : List Int) (k : Nat) : F__law_cell [.list (ns.map .int), .int (k : Nat)] = some (.int (cellV ns k)) := by
  refine box_rt rfl ?_
  unfold cellV
  by_cases h : k < ns.length
  · simp (disch := omega) [B__law_cell, h, atI_pos]
  · simp (disch := omega) [B__law_cell, h]
theorem eLc_eq {fi : SI} {vs : List Nat} {ρ : Rho} {g : SG} {t : SB} {e : SE} {ds ys : List PyData} (h1 : fi ρ = some ds) (h2 : lcGo g t e (wipeR ρ vs) ds = some ys) (h3 : ys.length ≤ 4096) : eLc fi g t e vs ρ = some (.list ys) := by
  rw [eLc_r, h1]
  show (lcGo g t e (wipeR ρ vs) ds).bind _ = _
  rw [h2]
  exact if_pos (by rw [sizeLine_eq]; omega)
theorem sSet_eq {ρ : Rho} {e : SE} {d : PyData} {k : Nat} (h : e ρ = some d) (hk : k < ρ.length) : sSet k e ρ = some (.nx (ρ.set k (.val d))) := by
  rw [sSet_r, h]; exact if_pos hk
theorem sOwn_eq {ρ : Rho} {e : SE} {d : PyData} {k : Nat} (h : e ρ = some d) (hk : k < ρ.length) : sOwn k e ρ = some (.nx (ρ.set k (.own d))) := by
  rw [sOwn_r, h]; exact if_pos hk
theorem eCall1_eq {F : List PyData → Option PyData} {ρ : Rho} {e : SE} {d r : PyData} (h : e ρ = some d) (hF : F [d] = some r) : eCall F (aCons e aNil) ρ = some r := by
  rw [eCall_r, aCons_r, h]; exact hF
theorem sFor_eq {fi : SI} {g : SG} {b : SS} {ρ : Rho} {ds : List PyData} (h : fi ρ = some ds) : sFor fi g b ρ = forGo g b ds ρ := by
  rw [sFor_r, h]; rfl
theorem sArgs_eq {F : List PyData → Option (List PyData)} {r : SA} {ρ : Rho} {ds ds' : List PyData} (h1 : r ρ = some ds) (h2 : F ds = some ds') : sArgs F r ρ = some ds' := by
  rw [sArgs_r, h1]; exact h2
theorem rng1_n (n : Nat) (h : n ≤ 4096) : rng1 [.int (n : Nat)] = some (rangeD 0 n) := by
  rw [rng1_r (by omega) (by omega), Int.toNat_natCast]
theorem rangeD_cons (a n : Nat) : rangeD (a : Nat) (n + 1) = .int (a : Nat) :: rangeD ((a + 1 : Nat) : Int) n := by
  rw [rangeD_map, rangeD_map, List.range_succ_eq_map, List.map_cons, List.map_cons, List.map_map, List.map_map, List.map_map]
  have e : ∀ i : Nat, ((a : Int) + ((i + 1 : Nat) : Int)) = ((a + 1 : Nat) : Int) + (i : Int) := fun i => by omega
  have e0 : (a : Int) + ((0 : Nat) : Int) = (a : Int) := by omega
  refine congr (congrArg _ ?_) (List.map_congr_left fun i _ => ?_)
  · show PyData.int ((a : Int) + ((0 : Nat) : Int)) = _
    rw [e0]
  · show PyData.int ((a : Int) + ((i + 1 : Nat) : Int)) = PyData.int (((a + 1 : Nat) : Int) + (i : Int))
    rw [e]
theorem rangeD_down (L n : Nat) (h : n + 1 ≤ L) : rangeD ((L - (n + 1) : Nat) : Int) (n + 1) = .int ((L - (n + 1) : Nat) : Int) :: rangeD ((L - n : Nat) : Int) n := by
  rw [rangeD_cons, show L - (n + 1) + 1 = L - n by omega]
/-! ### dealt -/
/-- one more for each positive weight while there is a rest -/
def give : List (Int × Int) → Int → List Int
  | [], _ => []
  | (w, b) :: t, r => if 0 < w ∧ 0 < r then (b + 1) :: give t (r - 1) else b :: give t r
theorem give_len : ∀ (l : List (Int × Int)) (r : Int), (give l r).length = l.length
  | [], _ => rfl
  | (w, b) :: t, r => by
    unfold give
    split
    · rw [List.length_cons, give_len t, List.length_cons]
    · rw [List.length_cons, give_len t, List.length_cons]
def posN : List (Int × Int) → Int
  | [] => 0
  | (w, _) :: t => (if 0 < w then 1 else 0) + posN t
theorem posN_b : ∀ l : List (Int × Int), 0 ≤ posN l
  | [] => Int.le_refl _
  | (w, b) :: t => by
    have := posN_b t
    unfold posN; split <;> omega
theorem give_sum : ∀ (l : List (Int × Int)) (r : Int), 0 ≤ r → r ≤ posN l → (give l r).sum = (l.map (·.2)).sum + r
  | [], r, h0, h1 => by
    have : r = 0 := by unfold posN at h1; omega
    subst this; simp [give]
  | (w, b) :: t, r, h0, h1 => by
    unfold posN at h1
    unfold give
    have hp := posN_b t
    split
    · rename_i c
      rw [if_pos c.1] at h1
      rw [List.sum_cons, give_sum t (r - 1) (by omega) (by omega), List.map_cons, List.sum_cons]
      omega
    · rename_i c
      by_cases hw : 0 < w
      · have hr : r = 0 := by
          have : ¬ 0 < r := fun z => c ⟨hw, z⟩
          omega
        subst hr
        rw [List.sum_cons, give_sum t 0 (by omega) (by omega), List.map_cons, List.sum_cons]
        omega
      · rw [if_neg hw] at h1
        rw [List.sum_cons, give_sum t r (by omega) (by omega), List.map_cons, List.sum_cons]
        omega
def prs (A : Int) (ws : List Int) : List (Int × Int) := ws.map fun w => (w, A * w / ws.sum)
def restV (A : Int) (ws : List Int) : Int := A - (ws.map fun w => A * w / ws.sum).sum
/-- what is left over stays below the number of positive weights -/
theorem rest_aux (A T : Int) (hT : 0 < T) : ∀ ws : List Int, (∀ w ∈ ws, 0 ≤ w) → T * (ws.map fun w => A * w / T).sum ≤ A * ws.sum ∧ A * ws.sum ≤ T * ((ws.map fun w => A * w / T).sum + posN (ws.map fun w => (w, A * w / T)))
  | [], _ => by simp [posN]
  | w :: r, h => by
    obtain ⟨h1, h2⟩ := rest_aux A T hT r fun x hx => h x (List.mem_cons_of_mem _ hx)
    have hw := h w List.mem_cons_self
    have d1 := Int.mul_ediv_add_emod (A * w) T
    have d2 := Int.emod_nonneg (A * w) (show T ≠ 0 by omega)
    have d3 := Int.emod_lt_of_pos (A * w) hT
    simp only [List.map_cons, List.sum_cons, posN]
    have e1 : A * (w + r.sum) = A * w + A * r.sum := Int.mul_add ..
    have e2 : T * (A * w / T + (r.map fun w => A * w / T).sum) = T * (A * w / T) + T * (r.map fun w => A * w / T).sum := Int.mul_add ..
    constructor
    · rw [e1, e2]; omega
    · by_cases z : 0 < w
      · rw [if_pos z, e1]
        have e3 : T * (A * w / T + (r.map fun w => A * w / T).sum + (1 + posN (r.map fun w => (w, A * w / T)))) = T * (A * w / T) + T + T * ((r.map fun w => A * w / T).sum + posN (r.map fun w => (w, A * w / T))) := by
          simp only [Int.mul_add, Int.mul_one]; omega
        rw [e3]; omega
      · have : w = 0 := by omega
        subst this
        rw [if_neg z]
        simp only [Int.mul_zero, Int.zero_ediv, Int.zero_add]
        exact h2
theorem rest_b (A : Int) (ws : List Int) (h : ∀ w ∈ ws, 0 ≤ w) (hT : 0 < ws.sum) : 0 ≤ restV A ws ∧ restV A ws ≤ posN (prs A ws) := by
  obtain ⟨h1, h2⟩ := rest_aux A ws.sum hT ws h
  rw [Int.mul_comm A ws.sum] at h1 h2
  have h1' := Int.le_of_mul_le_mul_left h1 hT
  have h2' := Int.le_of_mul_le_mul_left h2 hT
  unfold restV prs
  omega
def dealtV (A : Int) (ws : List Int) : List Int := if ws.sum = 0 then ws.map fun _ => 0 else give (prs A ws) (restV A ws)
theorem dealtV_len (A : Int) (ws : List Int) : (dealtV A ws).length = ws.length := by
  unfold dealtV; split
  · simp
  · rw [give_len]; simp [prs]
theorem dealtV_sum (A : Int) (ws : List Int) (h : ∀ w ∈ ws, 0 ≤ w) (hT : 0 < ws.sum) : (dealtV A ws).sum = A := by
  obtain ⟨h1, h2⟩ := rest_b A ws h hT
  unfold dealtV
  rw [if_neg (by omega), give_sum _ _ h1 h2]
  have : (prs A ws).map (·.2) = ws.map fun w => A * w / ws.sum := by unfold prs; rw [List.map_map]; rfl
  rw [this]
  unfold restV; omega
theorem enumD_eq : ∀ (ws : List Int) (n i : Nat), (enumD n (ws.map PyData.int))[i]? = ws[i]?.map fun w => .tuple [.int ((n + i : Nat) : Int), .int w] := fun ws n i => by
  rw [enumD_get, List.getElem?_map]
  cases ws[i]? <;> rfl
theorem drop_cons {α : Type} {l : List α} {i : Nat} {a : α} (h : l[i]? = some a) : l.drop i = a :: l.drop (i + 1) := by
  obtain ⟨hi, rfl⟩ := List.getElem?_eq_some_iff.mp h
  exact List.drop_eq_getElem_cons hi
theorem dealt_eq (A : Int) (ws : List Int) (hA : -18446744073709551616 < A ∧ A < 18446744073709551616) (hl : ws.length ≤ 1000) (h0 : 0 ≤ ws.sum) (hT : ws.sum < 18446744073709551616) : F_dealt [.int A, .list (ws.map .int)] = some (.list ((dealtV A ws).map .int)) := by
  refine box_rt rfl ?_
  unfold B_dealt
  rw [seq_nx (ρ' := [.bor (.int A), .bor (.list (ws.map .int)), .val (.int ws.sum), .un, .un, .un, .un]) (by simp)]
  unfold dealtV
  by_cases z : ws.sum = 0
  · rw [if_pos z]
    have e0 : lcGo (gV 6) bYes (eK (.int 0)) [.bor (.list (ws.map .int)), .bor (.list (ws.map .int)), .val (.int ws.sum), .un, .un, .un, .un] (ws.map .int) = some (ws.map fun _ => .int 0) := lcGo_map PyData.int _ ws fun a _ => ⟨_, rfl, rfl, rfl⟩
    refine seq_rt ?_
    rw [sIf_r]
    simp only [bT_r, eOp_r, eB_s, eB_0v, eK_r, Option.bind_some]
    have q : oEq (.int ws.sum) (.int 0) = some (.bool true) := by simp [z]
    rw [q]
    simp only [Option.bind_some, asB, if_true, sRet_r]
    rw [eLc_eq (ds := ws.map .int) (by simp) (lcGo_map PyData.int (fun _ => .int 0) ws fun a _ => ⟨_, rfl, rfl, rfl⟩) (by rw [List.length_map]; omega)]
    simp
  · rw [if_neg z]
    rw [seq_nx (ρ' := [.bor (.int A), .bor (.list (ws.map .int)), .val (.int ws.sum), .un, .un, .un, .un]) (by simp [z])]
    have e1 : lcGo (gV 6) bYes (eOp oFdiv (eOp oMulS (eB 0) (eB 6)) (eB 2)) [.bor (.int A), .bor (.list (ws.map .int)), .val (.int ws.sum), .un, .un, .un, .un] (ws.map .int) = some ((ws.map fun w => A * w / ws.sum).map .int) := by
      rw [List.map_map]
      exact lcGo_map PyData.int _ ws fun a _ => ⟨_, rfl, rfl, by simp (disch := omega) [oMul_l]⟩
    rw [seq_nx (ρ' := [.bor (.int A), .bor (.list (ws.map .int)), .val (.int ws.sum), .own (.list ((ws.map fun w => A * w / ws.sum).map .int)), .un, .un, .un]) (sOwn_eq (eLc_eq (ds := ws.map .int) (by simp) e1 (by rw [List.length_map, List.length_map]; omega)) (by simp))]
    rw [seq_nx (ρ' := [.bor (.int A), .bor (.list (ws.map .int)), .val (.int ws.sum), .own (.list ((ws.map fun w => A * w / ws.sum).map .int)), .val (.int (restV A ws)), .un, .un]) (by rw [sSet_r]; simp only [eOp_r, eB_s, eB_0b, eCall_r, aCons_r, aNil_r, eB_0o, Option.bind_some, cSum_i]; simp [restV])]
    have pl : (prs A ws).map (·.2) = ws.map fun w => A * w / ws.sum := by unfold prs; rw [List.map_map]; rfl
    have pw : (prs A ws).length = ws.length := by simp [prs]
    rw [← pl]
    have step : ∀ (P R : List Int) (w b r : Int) (s5 s6 : Slot), P.length ≤ 1000 → L_dealt_1 [.bor (.int A), .bor (.list (ws.map .int)), .val (.int ws.sum), .own (.list ((P ++ b :: R).map .int)), .val (.int r), .val (.int (P.length : Nat)), .val (.int w)] = some (.nx [.bor (.int A), .bor (.list (ws.map .int)), .val (.int ws.sum), .own (.list ((P ++ (if 0 < w ∧ 0 < r then b + 1 else b) :: R).map .int)), .val (.int (if 0 < w ∧ 0 < r then r - 1 else r)), .val (.int (P.length : Nat)), .val (.int w)]) := by
      intro P R w b r s5 s6 hP
      have g1 : atI ((P ++ b :: R).map PyData.int) (P.length : Nat) = some (.int b) := by
        rw [atI_pos (by omega), Int.toNat_natCast]; simp
      have g2 : ixN ((P ++ b :: R).map PyData.int).length (P.length : Nat) = some P.length := by
        unfold ixN
        rw [if_pos (by omega), if_pos (by simp; omega), Int.toNat_natCast]
      have g3 : ((P ++ b :: R).map PyData.int).set P.length (.int (b + 1)) = (P ++ (b + 1) :: R).map PyData.int := by
        simp [List.set_append]
      by_cases hw : 0 < w
      · by_cases hr : 0 < r
        · rw [if_pos ⟨hw, hr⟩, if_pos ⟨hw, hr⟩, ← g3]
          generalize (P ++ b :: R).map PyData.int = L at *
          simp [L_dealt_1, hw, hr, g1, g2, sAug, subI]
        · rw [if_neg (fun c => hr c.2), if_neg (fun c => hr c.2)]
          simp [L_dealt_1, hw, hr]
      · rw [if_neg (fun c => hw c.1), if_neg (fun c => hw c.1)]
        simp [L_dealt_1, hw]
    have key := for_all (ds := enumD 0 (ws.map PyData.int)) (g := gT 2 (gsCons (gV 5) (gsCons (gV 6) gsNil))) (b := L_dealt_1) (ρ := [.bor (.int A), .bor (.list (ws.map .int)), .val (.int ws.sum), .own (.list (((prs A ws).map (·.2)).map .int)), .val (.int (restV A ws)), .un, .un])
      (fun i ρ => ∃ P r s5 s6, ρ = [.bor (.int A), .bor (.list (ws.map .int)), .val (.int ws.sum), .own (.list ((P ++ ((prs A ws).drop i).map (·.2)).map .int)), .val (.int r), s5, s6] ∧ P.length = i ∧ P ++ give ((prs A ws).drop i) r = give (prs A ws) (restV A ws)) ⟨[], restV A ws, .un, .un, by simp, rfl, by simp⟩ (by
      rintro i dd ρ hd ⟨P, r, s5, s6, rfl, hP, hg⟩
      rw [enumD_eq] at hd
      obtain ⟨w, hw, rfl⟩ := map_some hd
      have hi := (List.getElem?_eq_some_iff.mp hw).1
      have hp : (prs A ws)[i]? = some (w, A * w / ws.sum) := by unfold prs; rw [List.getElem?_map, hw]; rfl
      rw [drop_cons hp, List.map_cons]
      rw [drop_cons hp] at hg
      subst hP
      refine ⟨[.bor (.int A), .bor (.list (ws.map .int)), .val (.int ws.sum), .own (.list ((P ++ A * w / ws.sum :: ((prs A ws).drop (P.length + 1)).map (·.2)).map .int)), .val (.int r), .val (.int (P.length : Nat)), .val (.int w)], _, ?_, .inl (step P _ w _ r s5 s6 (by omega)), ?_⟩
      · rw [Nat.zero_add]; rfl
      · refine ⟨P ++ [if 0 < w ∧ 0 < r then A * w / ws.sum + 1 else A * w / ws.sum], _, _, _, by rw [List.append_assoc]; rfl, by simp, ?_⟩
        rw [← hg, List.append_assoc]
        congr 1
        show _ = give ((w, A * w / ws.sum) :: _) r
        rw [give]
        by_cases c : 0 < w ∧ 0 < r
        · rw [if_pos c, if_pos c, if_pos c]; rfl
        · rw [if_neg c, if_neg c, if_neg c]; rfl)
    obtain ⟨ρ', e, P, r, s5, s6, rfl, hP, hg⟩ := key
    rw [enumD_len, List.length_map] at hP hg
    rw [enumD_len, List.length_map] at e
    rw [List.drop_of_length_le (by rw [pw]; exact Nat.le_refl _)] at hg e
    rw [give, List.append_nil] at hg
    subst hg
    rw [seq_nx ((sFor_eq (sArgs_eq (ds := [.list (ws.map .int)]) (by simp) (show enumI [.list (ws.map .int)] = some (enumD 0 (ws.map .int)) from rfl))).trans e)]
    simp
/-! ### loops by their turns -/
theorem for_rng {g : SG} {b : SS} {ρ : Rho} (lo : Int) (n : Nat) (I : Nat → Rho → Prop) (h0 : I 0 ρ) (turn : ∀ (i : Nat) ρ, i < n → I i ρ → ∃ ρ1 ρ', g (.int (lo + (i : Nat))) ρ = some ρ1 ∧ b ρ1 = some (.nx ρ') ∧ I (i + 1) ρ') : ∃ ρ', forGo g b (rangeD lo n) ρ = some (.nx ρ') ∧ I n ρ' := by
  have := for_all (ds := rangeD lo n) (g := g) (b := b) (ρ := ρ) I h0 (by
    intro i d ρ hd hi
    have hlt : i < n := by
      have := (List.getElem?_eq_some_iff.mp hd).1
      rw [rangeD_map, List.length_map, List.length_map, List.length_range] at this
      exact this
    rw [rangeD_map, List.getElem?_map, List.getElem?_map, List.getElem?_range hlt] at hd
    have hd := Option.some.inj hd
    obtain ⟨ρ1, ρ', e1, e2, e3⟩ := turn i ρ hlt hi
    exact ⟨ρ1, ρ', by rw [← hd]; exact e1, .inl e2, e3⟩)
  rw [rangeD_map, List.length_map, List.length_map, List.length_range] at this
  rw [rangeD_map]
  exact this
theorem for_lst {α : Type} (enc : α → PyData) (xs : List α) {g : SG} {b : SS} {ρ : Rho} (I : Nat → Rho → Prop) (h0 : I 0 ρ) (turn : ∀ (i : Nat) a ρ, xs[i]? = some a → I i ρ → ∃ ρ1 ρ', g (enc a) ρ = some ρ1 ∧ b ρ1 = some (.nx ρ') ∧ I (i + 1) ρ') : ∃ ρ', forGo g b (xs.map enc) ρ = some (.nx ρ') ∧ I xs.length ρ' := by
  have := for_all (ds := xs.map enc) (g := g) (b := b) (ρ := ρ) I h0 (by
    intro i d ρ hd hi
    rw [List.getElem?_map] at hd
    obtain ⟨a, ha, rfl⟩ := map_some hd
    obtain ⟨ρ1, ρ', e1, e2, e3⟩ := turn i a ρ ha hi
    exact ⟨ρ1, ρ', e1, .inl e2, e3⟩)
  rw [List.length_map] at this
  exact this
theorem while_cnt {t : SB} {b : SS} (ρ : Nat → Rho) (c : Nat) (h : ∀ i, i < c → t (ρ i) = some true ∧ b (ρ i) = some (.nx (ρ (i + 1)))) (hc : t (ρ c) = some false) : ∀ (n i : Nat), i + n = c → ∀ fuel, n < fuel → whileGo t b fuel (ρ i) = some (.nx (ρ c))
  | 0, i, hi, fuel, hf => by
    obtain ⟨f, rfl⟩ : ∃ f, fuel = f + 1 := ⟨fuel - 1, by omega⟩
    have : i = c := by omega
    subst this
    unfold whileGo
    rw [hc, Option.bind_some, if_neg Bool.false_ne_true]
  | n + 1, i, hi, fuel, hf => by
    obtain ⟨f, rfl⟩ : ∃ f, fuel = f + 1 := ⟨fuel - 1, by omega⟩
    obtain ⟨h1, h2⟩ := h i (by omega)
    unfold whileGo
    rw [h1, Option.bind_some, if_pos rfl, h2, Option.bind_some]
    exact while_cnt ρ c h hc n (i + 1) (by omega) f (by omega)
theorem lc_int {α : Type} {ρ : Rho} {g : SG} {t : SB} {e : SE} (enc : α → PyData) (F : α → Int) (xs : List α) (h : ∀ a ∈ xs, ∃ ρ1, g (enc a) ρ = some ρ1 ∧ t ρ1 = some true ∧ e ρ1 = some (.int (F a))) : lcGo g t e ρ (xs.map enc) = some ((xs.map F).map .int) := by
  have := lcGo_map (ρ := ρ) (g := g) (t := t) (e := e) enc (fun a => .int (F a)) xs h
  rw [this, List.map_map]; rfl
theorem lcf_int {α : Type} {ρ : Rho} {g : SG} {t : SB} {e : SE} (enc : α → PyData) (F : α → Int) (p : α → Bool) (xs : List α) (h : ∀ a ∈ xs, ∃ ρ1, g (enc a) ρ = some ρ1 ∧ t ρ1 = some (p a) ∧ (p a = true → e ρ1 = some (.int (F a)))) : lcGo g t e ρ (xs.map enc) = some (((xs.filter p).map F).map .int) := by
  have := lcGo_filter (ρ := ρ) (g := g) (t := t) (e := e) enc (fun a => .int (F a)) p xs h
  rw [this, List.map_map]; rfl
/-! ### growing widths, without the program -/
structure Gi where
  (b w l a x : Int)
def actS (L : List Gi) : Int := (L.map (·.a)).sum
def zipS (f : Int) (L : List Gi) : List (Gi × Int) := L.zip (dealtV f (L.map (·.a)))
def ovr (z : Gi × Int) : Bool := decide (0 < z.1.a ∧ z.1.l < z.1.b + z.2)
def stp (z : Gi × Int) : Gi := if ovr z = true then { z.1 with a := 0, x := z.1.l } else z.1
def dec (z : Gi × Int) : Int := if ovr z = true then z.1.l - z.1.b else 0
def fnl (z : Gi × Int) : Gi := { z.1 with x := z.1.x + z.2 }
def grw : Nat → Int → List Gi → List Gi
  | 0, _, L => L
  | n + 1, f, L => if actS L = 0 then L else if (zipS f L).any ovr = true then grw n (f - ((zipS f L).map dec).sum) ((zipS f L).map stp) else (zipS f L).map fnl
theorem zip_fst (f : Int) (L : List Gi) : (zipS f L).map (·.1) = L := by
  unfold zipS
  rw [List.map_fst_zip]
  rw [dealtV_len, List.length_map]; exact Nat.le_refl _
theorem zip_mem (f : Int) (L : List Gi) {z : Gi × Int} (h : z ∈ zipS f L) : z.1 ∈ L := by
  rw [← zip_fst f L]; exact List.mem_map.mpr ⟨z, h, rfl⟩
/-- a share lies at the floor or one above it -/
theorem give_near (f T : Int) : ∀ (L : List Gi) (r : Int), ∀ z ∈ L.zip (give (L.map fun g => (g.a, f * g.a / T)) r), f * z.1.a / T ≤ z.2 ∧ z.2 ≤ f * z.1.a / T + 1 ∧ (z.1.a ≤ 0 → z.2 = f * z.1.a / T)
  | [], r, z, h => by simp at h
  | g :: L, r, z, h => by
    rw [List.map_cons, give] at h
    split at h
    · rename_i c
      rw [List.zip_cons_cons] at h
      rcases List.mem_cons.mp h with rfl | h
      · exact ⟨by simp only []; omega, by simp only []; omega, fun q => by simp only [] at q c; omega⟩
      · exact give_near f T L _ z h
    · rename_i c
      rw [List.zip_cons_cons] at h
      rcases List.mem_cons.mp h with rfl | h
      · exact ⟨by simp only []; omega, by simp only []; omega, fun _ => rfl⟩
      · exact give_near f T L _ z h
theorem share_near (f : Int) (L : List Gi) (hT : 0 < actS L) : ∀ z ∈ zipS f L, f * z.1.a / actS L ≤ z.2 ∧ z.2 ≤ f * z.1.a / actS L + 1 ∧ (z.1.a ≤ 0 → z.2 = f * z.1.a / actS L) := by
  intro z h
  unfold zipS dealtV prs at h
  have hT' : (L.map (·.a)).sum = actS L := rfl
  rw [if_neg (by rw [hT']; omega), hT', List.map_map] at h
  exact give_near f (actS L) L _ z h
theorem zip_sum (f : Int) (L : List Gi) (h0 : ∀ g ∈ L, 0 ≤ g.a) (hT : 0 < actS L) : ((zipS f L).map (·.2)).sum = f := by
  have : (zipS f L).map (·.2) = dealtV f (L.map (·.a)) := by
    unfold zipS
    rw [List.map_snd_zip]
    rw [dealtV_len, List.length_map]; exact Nat.le_refl _
  rw [this]
  refine dealtV_sum f _ (fun w hw => ?_) hT
  obtain ⟨g, hg, rfl⟩ := List.mem_map.mp hw
  exact h0 g hg
/-- how an item stands -/
def GiOk (g : Gi) : Prop := 0 ≤ g.w ∧ g.b ≤ g.l ∧ ((g.a = g.w ∧ g.x = g.b) ∨ (0 < g.w ∧ g.a = 0 ∧ g.x = g.l))
def roomG (L : List Gi) : Int := (L.map fun g => if 0 < g.w then g.l - g.b else 0).sum
def gotG (L : List Gi) : Int := (L.map fun g => g.x - g.b).sum
def core (g : Gi) : Int × Int × Int := (g.b, g.w, g.l)
structure Goes (f0 f : Int) (L : List Gi) : Prop where
  ok : ∀ g ∈ L, GiOk g
  nf : 0 ≤ f
  all : f + gotG L = f0
  lev : ∀ g ∈ L, 0 < g.w → g.a = 0 → (g.l - g.b) * actS L ≤ f * g.w
structure Ends (f0 : Int) (L : List Gi) : Prop where
  in_ : ∀ g ∈ L, 0 ≤ g.w ∧ g.b ≤ g.x ∧ g.x ≤ g.l ∧ (g.w = 0 → g.x = g.b)
  sum : gotG L = min f0 (roomG L)
  even : ∀ k ∈ L, ∀ j ∈ L, 0 < k.w → k.x - k.b < k.l - k.b → 0 < j.w → (j.x - j.b) * k.w - (k.x - k.b) * j.w < k.w + j.w
theorem sum_le {α : Type} (f g : α → Int) : ∀ l : List α, (∀ a ∈ l, f a ≤ g a) → (l.map f).sum ≤ (l.map g).sum
  | [], _ => by simp
  | a :: l, h => by
    have := sum_le f g l fun x hx => h x (List.mem_cons_of_mem _ hx)
    have := h a List.mem_cons_self
    simp only [List.map_cons, List.sum_cons]; omega
theorem sum_nn {α : Type} (f : α → Int) (l : List α) (h : ∀ a ∈ l, 0 ≤ f a) : 0 ≤ (l.map f).sum := by
  have := sum_le (fun _ => 0) f l h
  have h0 : (l.map fun _ => (0 : Int)).sum = 0 := by
    clear this h
    induction l with
    | nil => rfl
    | cons a l ih => simp [ih]
  omega
theorem sum_zero {α : Type} (f : α → Int) : ∀ l : List α, (∀ a ∈ l, 0 ≤ f a) → (l.map f).sum = 0 → ∀ a ∈ l, f a = 0
  | a :: l, h, hs, x, hx => by
    have h1 := h a List.mem_cons_self
    have h2 := sum_nn f l fun y hy => h y (List.mem_cons_of_mem _ hy)
    simp only [List.map_cons, List.sum_cons] at hs
    rcases List.mem_cons.mp hx with rfl | hx
    · omega
    · exact sum_zero f l (fun y hy => h y (List.mem_cons_of_mem _ hy)) (by omega) x hx
theorem sum_add {α : Type} (f g : α → Int) : ∀ l : List α, (l.map fun a => f a + g a).sum = (l.map f).sum + (l.map g).sum
  | [] => by simp
  | a :: l => by
    have := sum_add f g l
    simp only [List.map_cons, List.sum_cons]; omega
theorem sum_mul {α : Type} (f : α → Int) (c : Int) : ∀ l : List α, (l.map fun a => f a * c).sum = (l.map f).sum * c
  | [] => by simp
  | a :: l => by
    have := sum_mul f c l
    simp only [List.map_cons, List.sum_cons, Int.add_mul]; omega
theorem act_nn {L : List Gi} (h : ∀ g ∈ L, GiOk g) : ∀ g ∈ L, 0 ≤ g.a := fun g hg => by
  obtain ⟨h1, h2, h3⟩ := h g hg
  omega
theorem map_fst_sum (f : Int) (L : List Gi) (h : Gi → Int) : ((zipS f L).map fun z => h z.1).sum = (L.map h).sum := by
  have : (zipS f L).map (fun z => h z.1) = ((zipS f L).map (·.1)).map h := by rw [List.map_map]; rfl
  rw [this, zip_fst]
theorem stp_core (z : Gi × Int) : core (stp z) = core z.1 := by unfold stp core; split <;> rfl
theorem fnl_core (z : Gi × Int) : core (fnl z) = core z.1 := rfl
/-- the step keeps what goes -/
theorem goes_step {f0 f : Int} {L : List Gi} (G : Goes f0 f L) (hT : 0 < actS L) : Goes f0 (f - ((zipS f L).map dec).sum) ((zipS f L).map stp) := by
  have hs := share_near f L hT
  have hov : ∀ z ∈ zipS f L, ovr z = true → (z.1.l - z.1.b) * actS L ≤ f * z.1.w ∧ 0 < z.1.w ∧ z.1.a = z.1.w ∧ z.1.x = z.1.b := fun z hz ho => by
    obtain ⟨k1, k2, k3⟩ := G.ok z.1 (zip_mem f L hz)
    have ho := of_decide_eq_true ho
    obtain ⟨n1, n2, n3⟩ := hs z hz
    have ha : z.1.a = z.1.w := by omega
    refine ⟨?_, by omega, ha, by omega⟩
    rw [ha] at n2
    have : z.1.l - z.1.b ≤ f * z.1.w / actS L := by omega
    exact (Int.le_ediv_iff_mul_le hT).mp this
  generalize hW : ((zipS f L).map fun z => if ovr z = true then z.1.w else 0).sum = W
  generalize hD : ((zipS f L).map dec).sum = D
  have hDT : D * actS L ≤ f * W := by
    rw [← hD, ← hW, ← sum_mul, Int.mul_comm f, ← sum_mul]
    refine sum_le _ _ _ fun z hz => ?_
    unfold dec
    by_cases c : ovr z = true
    · rw [if_pos c, if_pos c, Int.mul_comm z.1.w]
      exact (hov z hz c).1
    · rw [if_neg c, if_neg c]; simp
  have hT' : actS ((zipS f L).map stp) = actS L - W := by
    have h1 : actS L = ((zipS f L).map fun z => z.1.a).sum := (map_fst_sum f L (·.a)).symm
    have h2 : ((zipS f L).map fun z => z.1.a).sum = ((zipS f L).map fun z => (stp z).a + if ovr z = true then z.1.w else 0).sum := by
      congr 1
      refine List.map_congr_left fun z hz => ?_
      unfold stp
      by_cases c : ovr z = true
      · rw [if_pos c, if_pos c]
        have := (hov z hz c).2.2.1
        simp only []; omega
      · rw [if_neg c, if_neg c]; omega
    rw [sum_add, hW] at h2
    unfold actS at h1 ⊢
    rw [List.map_map]
    have h3 : ((zipS f L).map fun z => (stp z).a) = (zipS f L).map ((fun g => g.a) ∘ stp) := rfl
    rw [← h3]; omega
  have ok' : ∀ g ∈ (zipS f L).map stp, GiOk g := fun g hg => by
    obtain ⟨z, hz, rfl⟩ := List.mem_map.mp hg
    obtain ⟨k1, k2, k3⟩ := G.ok z.1 (zip_mem f L hz)
    unfold stp
    by_cases c : ovr z = true
    · rw [if_pos c]
      exact ⟨k1, k2, .inr ⟨(hov z hz c).2.1, rfl, rfl⟩⟩
    · rw [if_neg c]; exact ⟨k1, k2, k3⟩
  have hT0 : 0 ≤ actS ((zipS f L).map stp) := sum_nn _ _ (act_nn ok')
  rw [hT'] at hT0
  have hf := G.nf
  have hf' : 0 ≤ f - D := by
    have h1 : 0 ≤ (f - D) * actS L := by
      have : f * (actS L - W) ≥ 0 := Int.mul_nonneg hf hT0
      rw [Int.mul_sub] at this
      rw [Int.sub_mul]; omega
    exact Int.nonneg_of_mul_nonneg_left h1 hT
  refine ⟨ok', hf', ?_, fun g hg hw ha => ?_⟩
  · have h1 : gotG ((zipS f L).map stp) = gotG L + D := by
      unfold gotG
      rw [List.map_map, ← map_fst_sum f L (fun g => g.x - g.b), ← hD, ← sum_add]
      congr 1
      refine List.map_congr_left fun z hz => ?_
      show (stp z).x - (stp z).b = z.1.x - z.1.b + dec z
      unfold stp dec
      by_cases c : ovr z = true
      · rw [if_pos c, if_pos c]
        have := (hov z hz c).2.2.2
        simp only []; omega
      · rw [if_neg c, if_neg c]; omega
    have := G.all
    omega
  · obtain ⟨z, hz, rfl⟩ := List.mem_map.mp hg
    have hc : (z.1.l - z.1.b) * actS L ≤ f * z.1.w ∧ 0 < z.1.w := by
      by_cases c : ovr z = true
      · exact ⟨(hov z hz c).1, (hov z hz c).2.1⟩
      · unfold stp at hw ha
        rw [if_neg c] at hw ha
        exact ⟨G.lev z.1 (zip_mem f L hz) hw ha, hw⟩
    have hco : (stp z).l = z.1.l ∧ (stp z).b = z.1.b ∧ (stp z).w = z.1.w := by unfold stp; split <;> exact ⟨rfl, rfl, rfl⟩
    rw [hco.1, hco.2.1, hco.2.2, hT']
    generalize z.1.l - z.1.b = c at *
    generalize z.1.w = w at *
    generalize actS L = T at *
    have h1 : c * T * (T - W) ≤ f * w * (T - W) := Int.mul_le_mul_of_nonneg_right hc.1 hT0
    have h2 : D * T * w ≤ f * W * w := Int.mul_le_mul_of_nonneg_right hDT (by omega)
    have h3 : c * (T - W) * T ≤ (f - D) * w * T := by
      have e1 : c * (T - W) * T = c * T * (T - W) := by rw [Int.mul_assoc, Int.mul_comm (T - W), ← Int.mul_assoc]
      have e2 : (f - D) * w * T = f * w * T - D * T * w := by
        rw [Int.sub_mul, Int.sub_mul, Int.mul_assoc D, Int.mul_comm w T, ← Int.mul_assoc]
      have e3 : f * w * (T - W) = f * w * T - f * W * w := by
        rw [Int.mul_sub, Int.mul_assoc f w W, Int.mul_comm w W, ← Int.mul_assoc]
      omega
    exact Int.le_of_mul_le_mul_right h3 hT
theorem goes_end1 {f0 f : Int} {L : List Gi} (G : Goes f0 f L) (hT : actS L = 0) : Ends f0 L := by
  have ha : ∀ g ∈ L, g.a = 0 := sum_zero (fun g : Gi => g.a) L (act_nn G.ok) hT
  have key : ∀ g ∈ L, 0 ≤ g.w ∧ g.b ≤ g.l ∧ ((g.w = 0 ∧ g.x = g.b) ∨ (0 < g.w ∧ g.x = g.l)) := fun g hg => by
    obtain ⟨h1, h2, h3⟩ := G.ok g hg
    have := ha g hg
    refine ⟨h1, h2, ?_⟩
    rcases h3 with ⟨h3, h4⟩ | ⟨h3, _, h4⟩
    · exact .inl ⟨by omega, h4⟩
    · exact .inr ⟨h3, h4⟩
  have hr : roomG L = gotG L := by
    unfold roomG gotG
    congr 1
    refine List.map_congr_left fun g hg => ?_
    obtain ⟨h1, h2, h3⟩ := key g hg
    rcases h3 with ⟨h3, h4⟩ | ⟨h3, h4⟩
    · rw [if_neg (by omega)]; omega
    · rw [if_pos h3]; omega
  refine ⟨fun g hg => ?_, ?_, fun k hk j hj h1 h2 h3 => ?_⟩
  · obtain ⟨h1, h2, h3⟩ := key g hg
    refine ⟨h1, ?_, ?_, ?_⟩ <;> omega
  · have := G.all
    have := G.nf
    rw [hr]; omega
  · obtain ⟨_, _, h4⟩ := key k hk
    omega
theorem goes_end2 {f0 f : Int} {L : List Gi} (G : Goes f0 f L) (hT : 0 < actS L) (hn : (zipS f L).any ovr = false) : Ends f0 ((zipS f L).map fnl) := by
  have hs := share_near f L hT
  have hf := G.nf
  have key : ∀ z ∈ zipS f L, 0 ≤ z.1.w ∧ z.1.b ≤ z.1.x + z.2 ∧ z.1.x + z.2 ≤ z.1.l ∧ (z.1.w = 0 → z.1.x + z.2 = z.1.b) ∧ (0 < z.1.w → (z.1.x + z.2 - z.1.b - 1) * actS L ≤ f * z.1.w) ∧ (0 < z.1.w → z.1.x + z.2 - z.1.b < z.1.l - z.1.b → f * z.1.w < (z.1.x + z.2 - z.1.b + 1) * actS L) := fun z hz => by
    obtain ⟨k1, k2, k3⟩ := G.ok z.1 (zip_mem f L hz)
    obtain ⟨n1, n2, n3⟩ := hs z hz
    have no : ovr z = false := by
      cases h : ovr z with
      | false => rfl
      | true => rw [List.any_eq_true.mpr ⟨z, hz, h⟩] at hn; cases hn
    have no := of_decide_eq_false no
    have hl := G.lev z.1 (zip_mem f L hz)
    by_cases ha : z.1.a = 0
    · have hs0 : z.2 = 0 := by
        rw [n3 (by omega), ha, Int.mul_zero, Int.zero_ediv]
      rw [hs0]
      refine ⟨k1, by omega, by omega, fun h => by omega, fun h => ?_, fun h1 h2 => by omega⟩
      have h1 := hl h ha
      have h2 : z.1.x = z.1.l := by omega
      rw [h2, Int.add_zero, Int.sub_mul, Int.one_mul]
      omega
    · have hw : z.1.a = z.1.w ∧ z.1.x = z.1.b := by omega
      have hp : 0 < z.1.a := by omega
      rw [hw.1] at n1 n2 hp
      have q0 : 0 ≤ f * z.1.w / actS L := Int.ediv_nonneg (Int.mul_nonneg hf k1) (by omega)
      have e : z.1.x + z.2 - z.1.b = z.2 := by omega
      rw [e]
      refine ⟨k1, by omega, by omega, fun h => by omega, fun _ => ?_, fun _ _ => ?_⟩
      · exact (Int.le_ediv_iff_mul_le hT).mp (by omega)
      · exact (Int.ediv_lt_iff_lt_mul hT).mp (by omega)
  have hx : ∀ z : Gi × Int, (fnl z).x = z.1.x + z.2 ∧ (fnl z).b = z.1.b ∧ (fnl z).w = z.1.w ∧ (fnl z).l = z.1.l := fun z => ⟨rfl, rfl, rfl, rfl⟩
  have hgot : gotG ((zipS f L).map fnl) = f0 := by
    have h1 : gotG ((zipS f L).map fnl) = gotG L + f := by
      unfold gotG
      rw [List.map_map, ← map_fst_sum f L (fun g => g.x - g.b)]
      have h2 := zip_sum f L (act_nn G.ok) hT
      have h3 := sum_add (fun z : Gi × Int => z.1.x - z.1.b) (fun z => z.2) (zipS f L)
      rw [h2] at h3
      rw [← h3]
      congr 1
      refine List.map_congr_left fun z hz => ?_
      show z.1.x + z.2 - z.1.b = z.1.x - z.1.b + z.2
      omega
    have := G.all
    omega
  refine ⟨fun g hg => ?_, ?_, fun k hk j hj h1 h2 h3 => ?_⟩
  · obtain ⟨z, hz, rfl⟩ := List.mem_map.mp hg
    obtain ⟨c1, c2, c3, c4, _⟩ := key z hz
    exact ⟨c1, c2, c3, c4⟩
  · have : gotG ((zipS f L).map fnl) ≤ roomG ((zipS f L).map fnl) := by
      refine sum_le _ _ _ fun g hg => ?_
      obtain ⟨z, hz, rfl⟩ := List.mem_map.mp hg
      obtain ⟨c1, c2, c3, c4, _⟩ := key z hz
      show z.1.x + z.2 - z.1.b ≤ if 0 < z.1.w then z.1.l - z.1.b else 0
      split
      · omega
      · have := c4 (by omega)
        omega
    omega
  · obtain ⟨zk, hzk, rfl⟩ := List.mem_map.mp hk
    obtain ⟨zj, hzj, rfl⟩ := List.mem_map.mp hj
    have d1 := (key zk hzk).2.2.2.2.2 h1 h2
    have d2 := (key zj hzj).2.2.2.2.1 h3
    show (zj.1.x + zj.2 - zj.1.b) * zk.1.w - (zk.1.x + zk.2 - zk.1.b) * zj.1.w < zk.1.w + zj.1.w
    have h1 : 0 < zk.1.w := h1
    have h3 : 0 < zj.1.w := h3
    generalize zj.1.x + zj.2 - zj.1.b = gj at *
    generalize zk.1.x + zk.2 - zk.1.b = gk at *
    generalize zk.1.w = wk at *
    generalize zj.1.w = wj at *
    generalize actS L = T at *
    have m1 : (gj - 1) * T * wk ≤ f * wj * wk := Int.mul_le_mul_of_nonneg_right d2 (by omega)
    have m2 : f * wk * wj < (gk + 1) * T * wj := Int.mul_lt_mul_of_pos_right d1 h3
    have e1 : f * wj * wk = f * wk * wj := by rw [Int.mul_assoc, Int.mul_comm wj, ← Int.mul_assoc]
    have m3 : (gj - 1) * T * wk < (gk + 1) * T * wj := by omega
    have e2 : (gj - 1) * T * wk = ((gj - 1) * wk) * T := by rw [Int.mul_assoc, Int.mul_comm T, ← Int.mul_assoc]
    have e3 : (gk + 1) * T * wj = ((gk + 1) * wj) * T := by rw [Int.mul_assoc, Int.mul_comm T, ← Int.mul_assoc]
    rw [e2, e3] at m3
    have m4 := Int.lt_of_mul_lt_mul_right m3 (by omega)
    rw [Int.sub_mul, Int.add_mul, Int.one_mul, Int.one_mul] at m4
    omega
/-- how many still share -/
def nact (L : List Gi) : Nat := L.countP fun g => decide (0 < g.a)
theorem nact_step : ∀ Z : List (Gi × Int), (Z.map stp).countP (fun g => decide (0 < g.a)) + Z.countP ovr = (Z.map (·.1)).countP fun g => decide (0 < g.a)
  | [] => rfl
  | z :: Z => by
    have ih := nact_step Z
    rw [List.map_cons, List.map_cons, List.countP_cons, List.countP_cons, List.countP_cons]
    unfold stp
    by_cases c : ovr z = true
    · have h := of_decide_eq_true c
      rw [if_pos c, if_pos c, if_neg (by simp), if_pos (by simpa using h.1)]
      unfold stp at ih
      omega
    · rw [if_neg c, if_neg c]
      unfold stp at ih
      omega
theorem nact_less (f : Int) (L : List Gi) (h : (zipS f L).any ovr = true) : nact ((zipS f L).map stp) < nact L := by
  have h1 := nact_step (zipS f L)
  rw [zip_fst] at h1
  have h2 : 0 < (zipS f L).countP ovr := List.countP_pos_iff.mpr (by
    obtain ⟨z, hz, ho⟩ := List.any_eq_true.mp h
    exact ⟨z, hz, ho⟩)
  unfold nact; omega
theorem nact_zero {L : List Gi} (h0 : ∀ g ∈ L, 0 ≤ g.a) (h : nact L = 0) : actS L = 0 := by
  have := List.countP_eq_zero.mp h
  have h1 : ∀ g ∈ L, g.a = 0 := fun g hg => by
    have h2 := this g hg
    have h3 := h0 g hg
    simp at h2
    omega
  have : L.map (·.a) = L.map fun _ => 0 := List.map_congr_left h1
  unfold actS
  rw [this]
  have z : ∀ l : List Gi, (l.map fun _ => (0 : Int)).sum = 0 := fun l => by
    induction l with
    | nil => rfl
    | cons a l ih => simp [ih]
  exact z L
theorem grw_ends {f0 : Int} : ∀ (n : Nat) (f : Int) (L : List Gi), Goes f0 f L → nact L ≤ n → Ends f0 (grw n f L) ∧ (grw n f L).map core = L.map core
  | 0, f, L, G, h => ⟨goes_end1 G (nact_zero (act_nn G.ok) (Nat.le_zero.mp h)), rfl⟩
  | n + 1, f, L, G, h => by
    unfold grw
    by_cases hT : actS L = 0
    · rw [if_pos hT]
      exact ⟨goes_end1 G hT, rfl⟩
    · rw [if_neg hT]
      have hp : 0 < actS L := by
        have := sum_nn (·.a) L (act_nn G.ok)
        unfold actS at hT ⊢
        omega
      have hc : ∀ (F : Gi × Int → Gi), (∀ z, core (F z) = core z.1) → ((zipS f L).map F).map core = L.map core := fun F hF => by
        rw [List.map_map]
        refine (List.map_congr_left (g := fun z => core z.1) fun z _ => hF z).trans ?_
        have : (zipS f L).map (fun z => core z.1) = ((zipS f L).map (·.1)).map core := by rw [List.map_map]; rfl
        rw [this, zip_fst]
      cases ho : (zipS f L).any ovr with
      | true =>
        rw [if_pos rfl]
        have hl := nact_less f L ho
        obtain ⟨h1, h2⟩ := grw_ends n _ _ (goes_step G hp) (by omega)
        exact ⟨h1, by rw [h2, hc stp stp_core]⟩
      | false =>
        rw [if_neg Bool.false_ne_true]
        exact ⟨goes_end2 G hp ho, hc fnl fnl_core⟩
theorem is_integer_i (i : Int) : F__law_is_integer [.int i] = some (.bool true) := by
  refine box_rt rfl ?_
  simp [B__law_is_integer]
/-! ### the indexes that go over -/
theorem rangeD0 (n : Nat) : rangeD 0 n = (List.range n).map fun i : Nat => PyData.int (i : Int) := by
  rw [rangeD_map, List.map_map]
  apply List.map_congr_left
  intro i _
  show PyData.int (0 + (i : Int)) = _
  rw [Int.zero_add]
def idxs : Nat → List (Gi × Int) → List Nat
  | _, [] => []
  | i, z :: Z => if ovr z = true then i :: idxs (i + 1) Z else idxs (i + 1) Z
def ovAt (Z : List (Gi × Int)) (i : Nat) : Bool := match Z[i]? with
  | some z => ovr z
  | none => false
theorem idxs_range' : ∀ (Z : List (Gi × Int)) (i : Nat) (p : Nat → Bool), (∀ j z, Z[j]? = some z → p (i + j) = ovr z) → (List.range' i Z.length).filter p = idxs i Z
  | [], _, _, _ => rfl
  | z :: Z, i, p, h => by
    have h0 := h 0 z rfl
    rw [Nat.add_zero] at h0
    have ih := idxs_range' Z (i + 1) p fun j z' hz => by
      have := h (j + 1) z' hz
      rw [show i + 1 + j = i + (j + 1) by omega]; exact this
    rw [List.length_cons, List.range'_succ, List.filter_cons, h0, ih, idxs]
theorem idxs_filter (Z : List (Gi × Int)) : (List.range Z.length).filter (ovAt Z) = idxs 0 Z := by
  rw [List.range_eq_range']
  exact idxs_range' Z 0 (ovAt Z) fun j z h => by
    rw [Nat.zero_add]; unfold ovAt; rw [h]
theorem idxs_nil : ∀ (Z : List (Gi × Int)) (i : Nat), idxs i Z = [] ↔ Z.any ovr = false
  | [], i => by simp [idxs]
  | z :: Z, i => by
    unfold idxs
    rw [List.any_cons]
    cases h : ovr z with
    | true => simp
    | false => simp only [Bool.false_eq_true, if_false, Bool.false_or]; exact idxs_nil Z (i + 1)
theorem at_mid (P R : List Int) (v : Int) (n : Nat) (h : P.length = n) : oIx (.list ((P ++ v :: R).map .int)) (.int (n : Nat)) = some (.int v) := by
  rw [oIx_l, atI_pos (by omega), Int.toNat_natCast, List.getElem?_map, List.getElem?_append_right (by omega), h, Nat.sub_self]; rfl
theorem put_mid (P R : List Int) (v u : Int) (n : Nat) (h : P.length = n) : fSet ((P ++ v :: R).map .int) [.int (n : Nat), .int u] = some (.list ((P ++ u :: R).map .int)) := by
  have : ixN ((P ++ v :: R).map PyData.int).length (n : Nat) = some n := by
    unfold ixN
    rw [if_pos (by omega), if_pos (by simp; omega), Int.toNat_natCast]
  unfold fSet
  simp only []
  rw [this]
  simp only [Option.map_some]
  congr 2
  rw [List.map_append, List.map_cons, List.set_append_right _ _ (by rw [List.length_map]; omega), List.length_map, h, Nat.sub_self, List.set_cons_zero, List.map_append, List.map_cons]
def bI (g : Gi) : Int := -g.b
def lI (g : Gi) : Int := -g.l
def xI (g : Gi) : Int := -g.x
abbrev RG (f : Int) (B W M : List Int) (L : List Gi) (s6 s7 s8 s9 s10 s11 s12 : Slot) : Rho := [.val (.int f), .bor (.list (B.map .int)), .bor (.list (W.map .int)), .bor (.list (M.map .int)), .own (.list ((L.map xI).map .int)), .own (.list ((L.map (·.a)).map .int)), s6, s7, s8, s9, s10, s11, s12]
theorem shr1 (f : Int) (W : List Int) (P : List Gi) (z : Gi × Int) (Z : List (Gi × Int)) (B M : List Int) (hB : B = P.map bI ++ bI z.1 :: Z.map (fun z => bI z.1)) (hM : M = P.map lI ++ lI z.1 :: Z.map (fun z => lI z.1)) (ho : ovr z = true) (s6 s7 s9 s10 s11 s12 : Slot) :
    L_shrink_widths_1 (RG f B W M (P ++ z.1 :: Z.map (·.1)) s6 s7 (.val (.int (P.length : Nat))) s9 s10 s11 s12) = some (.nx (RG (f - dec z) B W M (P ++ stp z :: Z.map (·.1)) s6 s7 (.val (.int (P.length : Nat))) s9 s10 s11 s12)) := by
  have b1 := at_mid (P.map bI) (Z.map (fun z => bI z.1)) (bI z.1) P.length (List.length_map ..)
  have m1 := at_mid (P.map lI) (Z.map (fun z => lI z.1)) (lI z.1) P.length (List.length_map ..)
  have p1 := put_mid (P.map xI) ((Z.map (·.1)).map xI) (xI z.1) (lI z.1) P.length (List.length_map ..)
  have p2 := put_mid (P.map (·.a)) ((Z.map (·.1)).map (·.a)) z.1.a 0 P.length (List.length_map ..)
  rw [← hB] at b1
  rw [← hM] at m1
  have hs : stp z = { z.1 with a := 0, x := z.1.l } := by unfold stp; rw [if_pos ho]
  have hd : dec z = bI z.1 - lI z.1 := by unfold dec bI lI; rw [if_pos ho]; omega
  have e1 : (P ++ z.1 :: Z.map (·.1)).map xI = P.map xI ++ xI z.1 :: (Z.map (·.1)).map xI := by rw [List.map_append, List.map_cons]
  have e2 : (P ++ z.1 :: Z.map (·.1)).map (·.a) = P.map (·.a) ++ z.1.a :: (Z.map (·.1)).map (·.a) := by rw [List.map_append, List.map_cons]
  have e3 : (P ++ stp z :: Z.map (·.1)).map xI = P.map xI ++ lI z.1 :: (Z.map (·.1)).map xI := by rw [List.map_append, List.map_cons, hs]; rfl
  have e4 : (P ++ stp z :: Z.map (·.1)).map (·.a) = P.map (·.a) ++ 0 :: (Z.map (·.1)).map (·.a) := by rw [List.map_append, List.map_cons, hs]
  unfold RG
  rw [e1, e2, e3, e4, hd]
  generalize (P.map xI ++ xI z.1 :: (Z.map (·.1)).map xI).map PyData.int = X at *
  generalize (P.map xI ++ lI z.1 :: (Z.map (·.1)).map xI).map PyData.int = X' at *
  generalize (P.map (·.a) ++ z.1.a :: (Z.map (·.1)).map (·.a)).map PyData.int = A at *
  generalize (P.map (·.a) ++ 0 :: (Z.map (·.1)).map (·.a)).map PyData.int = A' at *
  generalize B.map PyData.int = BB at *
  generalize M.map PyData.int = MM at *
  generalize W.map PyData.int = WW at *
  generalize lI z.1 = l at *
  generalize bI z.1 = b at *
  unfold L_shrink_widths_1
  rw [seq_nx (ρ' := [.val (.int f), .bor (.list BB), .bor (.list WW), .bor (.list MM), .own (.list X'), .own (.list A), s6, s7, .val (.int (P.length : Nat)), s9, s10, s11, s12]) (by
    show (sPut 4 _ _) _ = _
    unfold sPut
    simp only [eK_r, eV_0, eV_s, eB_0v, eB_0b, eB_0p, eB_0o, eB_s, eP_0v, eP_0b, eP_s, eS_0, eS_s, getS_0, getS_s, aNil_r, aCons_r, eOp_r, eUn_r, eCall_r, eBm_r, eTup_r, eLst_r, eIf_r, eAnd_r, eOr_r, eNot_r, eIs_r, eChain_r, eSl_r, oNo_r, oSo_r, asI_r, bT_r, bV_r, bYes_r, asB_r, truth_b, truth_l, truth_t, truth_n, truth_i, bAnd_r, bOr_r, bNot_r, oAdd_i, oSub_i, oNeg_i, oLt_i, oLe_i, oGt_i, oGe_i, cInt_i, cInt_b, cLen_l, cLen_t, cList_l, cList_t, cMax2_i, cMin2_i, cAbs_i, isT_int_i, isT_bool_i, isT_bool_b, isT_int_b, isT_tuple_t, isT_list_l, oEq_i, oNe_i, oEq_b, oNe_b, oIsN_n, oNotN_n, oIsN_i, oNotN_i, oIsB_b, oNotB_b, sSeqn_r, sNext_r, sBrk_r, sCnt_r, sRetN_r, sExpr_r, sRet_r, sRetOwn_r, sIf_r, sSet_r, sOwn_r, sAsg_r, gV_r, gT_r, gsNil_r, gsCons_r, sFz_r, sAug_r, addI_r, subI_r, sSeq_r, sArgs_r, itemsOf_l, itemsOf_t, sMut_r, fApp_r, Option.bind_some, Option.map_some, List.length_cons, List.length_nil, Nat.zero_add, Nat.reduceAdd, Nat.reduceLT, Nat.reduceLeDiff, List.set_cons_zero, List.set_cons_succ, if_true, Bool.false_eq_true, if_false, Bool.not_true, Bool.not_false, decide_true, decide_false, reduceCtorEq, List.getElem?_cons_succ, List.getElem?_cons_zero, m1, p1])]
  rw [seq_nx (ρ' := [.val (.int (f - (b - l))), .bor (.list BB), .bor (.list WW), .bor (.list MM), .own (.list X'), .own (.list A), s6, s7, .val (.int (P.length : Nat)), s9, s10, s11, s12]) (by simp only [eK_r, eV_0, eV_s, eB_0v, eB_0b, eB_0p, eB_0o, eB_s, eP_0v, eP_0b, eP_s, eS_0, eS_s, getS_0, getS_s, aNil_r, aCons_r, eOp_r, eUn_r, eCall_r, eBm_r, eTup_r, eLst_r, eIf_r, eAnd_r, eOr_r, eNot_r, eIs_r, eChain_r, eSl_r, oNo_r, oSo_r, asI_r, bT_r, bV_r, bYes_r, asB_r, truth_b, truth_l, truth_t, truth_n, truth_i, bAnd_r, bOr_r, bNot_r, oAdd_i, oSub_i, oNeg_i, oLt_i, oLe_i, oGt_i, oGe_i, cInt_i, cInt_b, cLen_l, cLen_t, cList_l, cList_t, cMax2_i, cMin2_i, cAbs_i, isT_int_i, isT_bool_i, isT_bool_b, isT_int_b, isT_tuple_t, isT_list_l, oEq_i, oNe_i, oEq_b, oNe_b, oIsN_n, oNotN_n, oIsN_i, oNotN_i, oIsB_b, oNotB_b, sSeqn_r, sNext_r, sBrk_r, sCnt_r, sRetN_r, sExpr_r, sRet_r, sRetOwn_r, sIf_r, sSet_r, sOwn_r, sAsg_r, gV_r, gT_r, gsNil_r, gsCons_r, sFz_r, sAug_r, addI_r, subI_r, sSeq_r, sArgs_r, itemsOf_l, itemsOf_t, sMut_r, fApp_r, Option.bind_some, Option.map_some, List.length_cons, List.length_nil, Nat.zero_add, Nat.reduceAdd, Nat.reduceLT, Nat.reduceLeDiff, List.set_cons_zero, List.set_cons_succ, if_true, Bool.false_eq_true, if_false, Bool.not_true, Bool.not_false, decide_true, decide_false, reduceCtorEq, m1, b1])]
  show (sPut 5 _ _) _ = _
  unfold sPut
  simp only [eK_r, eV_0, eV_s, eB_0v, eB_0b, eB_0p, eB_0o, eB_s, eP_0v, eP_0b, eP_s, eS_0, eS_s, getS_0, getS_s, aNil_r, aCons_r, eOp_r, eUn_r, eCall_r, eBm_r, eTup_r, eLst_r, eIf_r, eAnd_r, eOr_r, eNot_r, eIs_r, eChain_r, eSl_r, oNo_r, oSo_r, asI_r, bT_r, bV_r, bYes_r, asB_r, truth_b, truth_l, truth_t, truth_n, truth_i, bAnd_r, bOr_r, bNot_r, oAdd_i, oSub_i, oNeg_i, oLt_i, oLe_i, oGt_i, oGe_i, cInt_i, cInt_b, cLen_l, cLen_t, cList_l, cList_t, cMax2_i, cMin2_i, cAbs_i, isT_int_i, isT_bool_i, isT_bool_b, isT_int_b, isT_tuple_t, isT_list_l, oEq_i, oNe_i, oEq_b, oNe_b, oIsN_n, oNotN_n, oIsN_i, oNotN_i, oIsB_b, oNotB_b, sSeqn_r, sNext_r, sBrk_r, sCnt_r, sRetN_r, sExpr_r, sRet_r, sRetOwn_r, sIf_r, sSet_r, sOwn_r, sAsg_r, gV_r, gT_r, gsNil_r, gsCons_r, sFz_r, sAug_r, addI_r, subI_r, sSeq_r, sArgs_r, itemsOf_l, itemsOf_t, sMut_r, fApp_r, Option.bind_some, Option.map_some, List.length_cons, List.length_nil, Nat.zero_add, Nat.reduceAdd, Nat.reduceLT, Nat.reduceLeDiff, List.set_cons_zero, List.set_cons_succ, if_true, Bool.false_eq_true, if_false, Bool.not_true, Bool.not_false, decide_true, decide_false, reduceCtorEq, List.getElem?_cons_succ, List.getElem?_cons_zero, p2]
theorem shrLoop (W : List Int) (s6 s7 s9 s10 s11 s12 : Slot) : ∀ (Z : List (Gi × Int)) (P : List Gi) (f : Int) (B M : List Int) (s8 : Slot), B = P.map bI ++ Z.map (fun z => bI z.1) → M = P.map lI ++ Z.map (fun z => lI z.1) →
    ∃ s8', forGo (gV 8) L_shrink_widths_1 ((idxs P.length Z).map fun i : Nat => PyData.int (i : Int)) (RG f B W M (P ++ Z.map (·.1)) s6 s7 s8 s9 s10 s11 s12) = some (.nx (RG (f - (Z.map dec).sum) B W M (P ++ Z.map stp) s6 s7 s8' s9 s10 s11 s12))
  | [], P, f, B, M, s8, _, _ => ⟨s8, by
    simp only [idxs, List.map_nil, List.append_nil, List.sum_nil, Int.sub_zero]; rfl⟩
  | z :: Z, P, f, B, M, s8, hB, hM => by
    unfold idxs
    by_cases c : ovr z = true
    · rw [if_pos c, List.map_cons, forGo]
      rw [List.map_cons] at hB hM
      have st := shr1 f W P z Z B M hB hM c s6 s7 s9 s10 s11 s12
      obtain ⟨s8', e⟩ := shrLoop W s6 s7 s9 s10 s11 s12 Z (P ++ [stp z]) (f - dec z) B M (.val (.int (P.length : Nat))) (by
        have hc := stp_core z
        unfold core at hc
        injection hc with h1 h2
        rw [hB, List.map_append, List.map_cons, List.map_nil, show bI (stp z) = bI z.1 from congrArg (fun i : Int => -i) h1, List.append_assoc]; rfl) (by
        have hc := stp_core z
        unfold core at hc
        injection hc with h1 h2
        injection h2 with h2 h3
        rw [hM, List.map_append, List.map_cons, List.map_nil, show lI (stp z) = lI z.1 from congrArg (fun i : Int => -i) h3, List.append_assoc]; rfl)
      refine ⟨s8', ?_⟩
      rw [List.map_cons, List.map_cons, List.map_cons, List.sum_cons]
      rw [show gV 8 (PyData.int (P.length : Nat)) (RG f B W M (P ++ z.1 :: Z.map (·.1)) s6 s7 s8 s9 s10 s11 s12) = some (RG f B W M (P ++ z.1 :: Z.map (·.1)) s6 s7 (.val (.int (P.length : Nat))) s9 s10 s11 s12) from rfl, Option.bind_some, st]
      rw [List.length_append, List.length_singleton, List.append_assoc, List.append_assoc] at e
      rw [show f - (dec z + (Z.map dec).sum) = f - dec z - (Z.map dec).sum by omega]
      exact e
    · rw [if_neg c]
      have hs : stp z = z.1 := by unfold stp; rw [if_neg c]
      have hd : dec z = 0 := by unfold dec; rw [if_neg c]
      obtain ⟨s8', e⟩ := shrLoop W s6 s7 s9 s10 s11 s12 Z (P ++ [z.1]) f B M s8 (by rw [hB, List.map_append, List.append_assoc]; rfl) (by rw [hM, List.map_append, List.append_assoc]; rfl)
      refine ⟨s8', ?_⟩
      rw [List.length_append, List.length_singleton, List.append_assoc, List.append_assoc] at e
      rw [List.map_cons, List.map_cons, List.map_cons, List.sum_cons, hs, hd, Int.zero_add]
      exact e
/-! ### the whole of shrink_widths -/
theorem zip_len (f : Int) (L : List Gi) : (zipS f L).length = L.length := by
  have := congrArg List.length (zip_fst f L)
  rw [List.length_map] at this
  exact this
theorem ix_map (L : List Gi) (F : Gi → Int) (i : Nat) (g : Gi) (h : L[i]? = some g) : oIx (.list ((L.map F).map .int)) (.int (i : Nat)) = some (.int (F g)) := by
  rw [oIx_l, atI_pos (by omega), Int.toNat_natCast, List.getElem?_map, List.getElem?_map, h]; rfl
theorem zip_at (f : Int) (L : List Gi) (i : Nat) (hi : i < L.length) : ∃ z, (zipS f L)[i]? = some z ∧ L[i]? = some z.1 ∧ (dealtV f (L.map (·.a)))[i]? = some z.2 := by
  have hl : (dealtV f (L.map (·.a))).length = L.length := by rw [dealtV_len, List.length_map]
  refine ⟨(L[i], (dealtV f (L.map (·.a)))[i]'(by omega)), ?_, ?_, ?_⟩
  · unfold zipS
    rw [List.getElem?_zip_eq_some]
    exact ⟨List.getElem?_eq_getElem hi, List.getElem?_eq_getElem (by omega)⟩
  · exact List.getElem?_eq_getElem hi
  · exact List.getElem?_eq_getElem (by omega)
theorem ovI (z : Gi × Int) : ovr z = decide (0 < z.1.a ∧ bI z.1 - z.2 < lI z.1) := by
  unfold ovr bI lI
  exact decide_eq_decide.mpr ⟨fun h => ⟨h.1, by omega⟩, fun h => ⟨h.1, by omega⟩⟩
theorem over_eq (f : Int) (W : List Int) (L : List Gi) (hl : L.length ≤ 1000) (s7 s9 s10 s11 s12 : Slot) :
    eLc (sArgs rng1 (aCons (eCall cLen (aCons (eB 1) aNil)) aNil)) (gV 8) (bAnd (bT (eOp oGt (eOp oIx (eB 5) (eB 8)) (eK (.int 0)))) (bT (eOp oLt (eOp oSub (eOp oIx (eB 1) (eB 8)) (eOp oIx (eB 6) (eB 8))) (eOp oIx (eB 3) (eB 8))))) (eV 8) [8]
      (RG f (L.map bI) W (L.map lI) L (.val (.list ((dealtV f (L.map (·.a))).map .int))) s7 .un s9 s10 s11 s12) = some (.list ((idxs 0 (zipS f L)).map fun i : Nat => PyData.int (i : Int))) := by
  have hbl : ((L.map bI).map PyData.int).length = L.length := by rw [List.length_map, List.length_map]
  have h1 := lcGo_filter (ρ := RG f (L.map bI) W (L.map lI) L (.val (.list ((dealtV f (L.map (·.a))).map .int))) s7 .un s9 s10 s11 s12) (g := gV 8) (t := bAnd (bT (eOp oGt (eOp oIx (eB 5) (eB 8)) (eK (.int 0)))) (bT (eOp oLt (eOp oSub (eOp oIx (eB 1) (eB 8)) (eOp oIx (eB 6) (eB 8))) (eOp oIx (eB 3) (eB 8))))) (e := eV 8) (fun i : Nat => PyData.int (i : Int)) (fun i : Nat => PyData.int (i : Int)) (ovAt (zipS f L)) (List.range L.length) fun i hi => by
    have hi := List.mem_range.mp hi
    obtain ⟨z, z1, z2, z3⟩ := zip_at f L i hi
    refine ⟨_, rfl, ?_, fun _ => rfl⟩
    have x1 := ix_map L (·.a) i z.1 z2
    have x2 := ix_map L bI i z.1 z2
    have x3 := ix_map L lI i z.1 z2
    have x4 : oIx (.list ((dealtV f (L.map (·.a))).map .int)) (.int (i : Nat)) = some (.int z.2) := by
      rw [oIx_l, atI_pos (by omega), Int.toNat_natCast, List.getElem?_map, z3]; rfl
    have ho : ovAt (zipS f L) i = decide (0 < z.1.a ∧ bI z.1 - z.2 < lI z.1) := by unfold ovAt; rw [z1]; exact ovI z
    rw [ho]
    generalize z.1.a = a at *
    generalize bI z.1 = b at *
    generalize lI z.1 = l at *
    show bAnd _ _ [_, .bor (.list ((L.map bI).map .int)), _, .bor (.list ((L.map lI).map .int)), _, .own (.list ((L.map (·.a)).map .int)), .val (.list ((dealtV f (L.map (·.a))).map .int)), _, .val (.int (i : Nat)), _, _, _, _] = _
    generalize PyData.list ((L.map (·.a)).map .int) = A at *
    generalize PyData.list ((L.map bI).map .int) = B at *
    generalize PyData.list ((L.map lI).map .int) = M at *
    generalize PyData.list ((dealtV f (L.map (·.a))).map .int) = S at *
    simp only [eK_r, eV_0, eV_s, eB_0v, eB_0b, eB_0p, eB_0o, eB_s, eP_0v, eP_0b, eP_s, eS_0, eS_s, getS_0, getS_s, aNil_r, aCons_r, eOp_r, eUn_r, eCall_r, eBm_r, eTup_r, eLst_r, eIf_r, eAnd_r, eOr_r, eNot_r, eIs_r, eChain_r, eSl_r, oNo_r, oSo_r, asI_r, bT_r, bV_r, bYes_r, asB_r, truth_b, truth_l, truth_t, truth_n, truth_i, bAnd_r, bOr_r, bNot_r, oAdd_i, oSub_i, oNeg_i, oLt_i, oLe_i, oGt_i, oGe_i, cInt_i, cInt_b, cLen_l, cLen_t, cList_l, cList_t, cMax2_i, cMin2_i, cAbs_i, isT_int_i, isT_bool_i, isT_bool_b, isT_int_b, isT_tuple_t, isT_list_l, oEq_i, oNe_i, oEq_b, oNe_b, oIsN_n, oNotN_n, oIsN_i, oNotN_i, oIsB_b, oNotB_b, sSeqn_r, sNext_r, sBrk_r, sCnt_r, sRetN_r, sExpr_r, sRet_r, sRetOwn_r, sIf_r, sSet_r, sOwn_r, sAsg_r, gV_r, gT_r, gsNil_r, gsCons_r, sFz_r, sAug_r, addI_r, subI_r, sSeq_r, sArgs_r, itemsOf_l, itemsOf_t, sMut_r, fApp_r, Option.bind_some, Option.map_some, List.length_cons, List.length_nil, Nat.zero_add, Nat.reduceAdd, Nat.reduceLT, Nat.reduceLeDiff, List.set_cons_zero, List.set_cons_succ, if_true, Bool.false_eq_true, if_false, Bool.not_true, Bool.not_false, decide_true, decide_false, reduceCtorEq, x1, x2, x3, x4]
    by_cases c1 : 0 < a
    · by_cases c2 : b - z.2 < l
      · simp only [eK_r, eV_0, eV_s, eB_0v, eB_0b, eB_0p, eB_0o, eB_s, eP_0v, eP_0b, eP_s, eS_0, eS_s, getS_0, getS_s, aNil_r, aCons_r, eOp_r, eUn_r, eCall_r, eBm_r, eTup_r, eLst_r, eIf_r, eAnd_r, eOr_r, eNot_r, eIs_r, eChain_r, eSl_r, oNo_r, oSo_r, asI_r, bT_r, bV_r, bYes_r, asB_r, truth_b, truth_l, truth_t, truth_n, truth_i, bAnd_r, bOr_r, bNot_r, oAdd_i, oSub_i, oNeg_i, oLt_i, oLe_i, oGt_i, oGe_i, cInt_i, cInt_b, cLen_l, cLen_t, cList_l, cList_t, cMax2_i, cMin2_i, cAbs_i, isT_int_i, isT_bool_i, isT_bool_b, isT_int_b, isT_tuple_t, isT_list_l, oEq_i, oNe_i, oEq_b, oNe_b, oIsN_n, oNotN_n, oIsN_i, oNotN_i, oIsB_b, oNotB_b, sSeqn_r, sNext_r, sBrk_r, sCnt_r, sRetN_r, sExpr_r, sRet_r, sRetOwn_r, sIf_r, sSet_r, sOwn_r, sAsg_r, gV_r, gT_r, gsNil_r, gsCons_r, sFz_r, sAug_r, addI_r, subI_r, sSeq_r, sArgs_r, itemsOf_l, itemsOf_t, sMut_r, fApp_r, Option.bind_some, Option.map_some, List.length_cons, List.length_nil, Nat.zero_add, Nat.reduceAdd, Nat.reduceLT, Nat.reduceLeDiff, List.set_cons_zero, List.set_cons_succ, if_true, Bool.false_eq_true, if_false, Bool.not_true, Bool.not_false, decide_true, decide_false, reduceCtorEq, c1, c2, and_self]
      · simp only [eK_r, eV_0, eV_s, eB_0v, eB_0b, eB_0p, eB_0o, eB_s, eP_0v, eP_0b, eP_s, eS_0, eS_s, getS_0, getS_s, aNil_r, aCons_r, eOp_r, eUn_r, eCall_r, eBm_r, eTup_r, eLst_r, eIf_r, eAnd_r, eOr_r, eNot_r, eIs_r, eChain_r, eSl_r, oNo_r, oSo_r, asI_r, bT_r, bV_r, bYes_r, asB_r, truth_b, truth_l, truth_t, truth_n, truth_i, bAnd_r, bOr_r, bNot_r, oAdd_i, oSub_i, oNeg_i, oLt_i, oLe_i, oGt_i, oGe_i, cInt_i, cInt_b, cLen_l, cLen_t, cList_l, cList_t, cMax2_i, cMin2_i, cAbs_i, isT_int_i, isT_bool_i, isT_bool_b, isT_int_b, isT_tuple_t, isT_list_l, oEq_i, oNe_i, oEq_b, oNe_b, oIsN_n, oNotN_n, oIsN_i, oNotN_i, oIsB_b, oNotB_b, sSeqn_r, sNext_r, sBrk_r, sCnt_r, sRetN_r, sExpr_r, sRet_r, sRetOwn_r, sIf_r, sSet_r, sOwn_r, sAsg_r, gV_r, gT_r, gsNil_r, gsCons_r, sFz_r, sAug_r, addI_r, subI_r, sSeq_r, sArgs_r, itemsOf_l, itemsOf_t, sMut_r, fApp_r, Option.bind_some, Option.map_some, List.length_cons, List.length_nil, Nat.zero_add, Nat.reduceAdd, Nat.reduceLT, Nat.reduceLeDiff, List.set_cons_zero, List.set_cons_succ, if_true, Bool.false_eq_true, if_false, Bool.not_true, Bool.not_false, decide_true, decide_false, reduceCtorEq, c1, c2, and_false]
    · simp only [eK_r, eV_0, eV_s, eB_0v, eB_0b, eB_0p, eB_0o, eB_s, eP_0v, eP_0b, eP_s, eS_0, eS_s, getS_0, getS_s, aNil_r, aCons_r, eOp_r, eUn_r, eCall_r, eBm_r, eTup_r, eLst_r, eIf_r, eAnd_r, eOr_r, eNot_r, eIs_r, eChain_r, eSl_r, oNo_r, oSo_r, asI_r, bT_r, bV_r, bYes_r, asB_r, truth_b, truth_l, truth_t, truth_n, truth_i, bAnd_r, bOr_r, bNot_r, oAdd_i, oSub_i, oNeg_i, oLt_i, oLe_i, oGt_i, oGe_i, cInt_i, cInt_b, cLen_l, cLen_t, cList_l, cList_t, cMax2_i, cMin2_i, cAbs_i, isT_int_i, isT_bool_i, isT_bool_b, isT_int_b, isT_tuple_t, isT_list_l, oEq_i, oNe_i, oEq_b, oNe_b, oIsN_n, oNotN_n, oIsN_i, oNotN_i, oIsB_b, oNotB_b, sSeqn_r, sNext_r, sBrk_r, sCnt_r, sRetN_r, sExpr_r, sRet_r, sRetOwn_r, sIf_r, sSet_r, sOwn_r, sAsg_r, gV_r, gT_r, gsNil_r, gsCons_r, sFz_r, sAug_r, addI_r, subI_r, sSeq_r, sArgs_r, itemsOf_l, itemsOf_t, sMut_r, fApp_r, Option.bind_some, Option.map_some, List.length_cons, List.length_nil, Nat.zero_add, Nat.reduceAdd, Nat.reduceLT, Nat.reduceLeDiff, List.set_cons_zero, List.set_cons_succ, if_true, Bool.false_eq_true, if_false, Bool.not_true, Bool.not_false, decide_true, decide_false, reduceCtorEq, c1, false_and]
  have h2 := idxs_filter (zipS f L)
  rw [zip_len] at h2
  rw [h2] at h1
  refine eLc_eq (ds := rangeD 0 L.length) ?_ ?_ ?_
  · exact sArgs_eq (ds := [.int (L.length : Nat)]) (by
      show (aCons (eCall cLen (aCons (eB 1) aNil)) aNil) [_, .bor (.list ((L.map bI).map .int)), _, _, _, _, _, _, _, _, _, _, _] = _
      simp only [eK_r, eV_0, eV_s, eB_0v, eB_0b, eB_0p, eB_0o, eB_s, eP_0v, eP_0b, eP_s, eS_0, eS_s, getS_0, getS_s, aNil_r, aCons_r, eOp_r, eUn_r, eCall_r, eBm_r, eTup_r, eLst_r, eIf_r, eAnd_r, eOr_r, eNot_r, eIs_r, eChain_r, eSl_r, oNo_r, oSo_r, asI_r, bT_r, bV_r, bYes_r, asB_r, truth_b, truth_l, truth_t, truth_n, truth_i, bAnd_r, bOr_r, bNot_r, oAdd_i, oSub_i, oNeg_i, oLt_i, oLe_i, oGt_i, oGe_i, cInt_i, cInt_b, cLen_l, cLen_t, cList_l, cList_t, cMax2_i, cMin2_i, cAbs_i, isT_int_i, isT_bool_i, isT_bool_b, isT_int_b, isT_tuple_t, isT_list_l, oEq_i, oNe_i, oEq_b, oNe_b, oIsN_n, oNotN_n, oIsN_i, oNotN_i, oIsB_b, oNotB_b, sSeqn_r, sNext_r, sBrk_r, sCnt_r, sRetN_r, sExpr_r, sRet_r, sRetOwn_r, sIf_r, sSet_r, sOwn_r, sAsg_r, gV_r, gT_r, gsNil_r, gsCons_r, sFz_r, sAug_r, addI_r, subI_r, sSeq_r, sArgs_r, itemsOf_l, itemsOf_t, sMut_r, fApp_r, Option.bind_some, Option.map_some, List.length_cons, List.length_nil, Nat.zero_add, Nat.reduceAdd, Nat.reduceLT, Nat.reduceLeDiff, List.set_cons_zero, List.set_cons_succ, if_true, Bool.false_eq_true, if_false, Bool.not_true, Bool.not_false, decide_true, decide_false, reduceCtorEq, hbl]) (rng1_n _ (by omega))
  · rw [rangeD0]; exact h1
  · rw [List.length_map, ← h2]
    have := List.length_filter_le (ovAt (zipS f L)) (List.range L.length)
    rw [List.length_range] at this
    omega
theorem zipD_ints : ∀ (X S : List Int), zipD (X.map PyData.int) (S.map .int) = (X.zip S).map fun p => .tuple [.int p.1, .int p.2]
  | [], S => by cases S <;> rfl
  | x :: X, [] => rfl
  | x :: X, s :: S => by
    rw [List.map_cons, List.map_cons, List.zip_cons_cons, List.map_cons, zipD, zipD_ints X S]
theorem fnl_x (f : Int) (L : List Gi) : ((L.map xI).zip (dealtV f (L.map (·.a)))).map (fun p => p.1 - p.2) = ((zipS f L).map fnl).map xI := by
  unfold zipS
  rw [List.map_map, List.zip_map_left, List.map_map]
  refine List.map_congr_left fun z _ => ?_
  show -z.1.x - z.2 = -(z.1.x + z.2)
  omega
theorem shrRet (f : Int) (W : List Int) (L : List Gi) (hl : L.length ≤ 1000) (s7 s8 s9 s10 s11 s12 : Slot) :
    (sFz 4 (sRet (eLc (sArgs zipI (aCons (eV 4) (aCons (eP 6) aNil))) (gT 2 (gsCons (gV 11) (gsCons (gV 12) gsNil))) bYes (eOp oSub (eB 11) (eB 12)) [11, 12])))
      (RG f (L.map bI) W (L.map lI) L (.val (.list ((dealtV f (L.map (·.a))).map .int))) s7 s8 s9 s10 s11 s12) = some (.rt (.list ((((zipS f L).map fnl).map xI).map .int))) := by
  rw [← fnl_x]
  have h1 := lcGo_map (ρ := [.val (.int f), .bor (.list ((L.map bI).map .int)), .bor (.list (W.map .int)), .bor (.list ((L.map lI).map .int)), .val (.list ((L.map xI).map .int)), .own (.list ((L.map (·.a)).map .int)), .val (.list ((dealtV f (L.map (·.a))).map .int)), s7, s8, s9, s10, .un, .un]) (g := gT 2 (gsCons (gV 11) (gsCons (gV 12) gsNil))) (t := bYes) (e := eOp oSub (eB 11) (eB 12)) (fun p : Int × Int => PyData.tuple [.int p.1, .int p.2]) (fun p => PyData.int (p.1 - p.2)) ((L.map xI).zip (dealtV f (L.map (·.a)))) fun p _ => ⟨_, rfl, rfl, rfl⟩
  have h2 : zipI [.list ((L.map xI).map .int), .list ((dealtV f (L.map (·.a))).map .int)] = some (((L.map xI).zip (dealtV f (L.map (·.a)))).map fun p => .tuple [.int p.1, .int p.2]) := by
    show some (zipD _ _) = _
    rw [zipD_ints]
  have h3 : ((L.map xI).zip (dealtV f (L.map (·.a)))).length ≤ 1000 := by
    rw [List.length_zip, List.length_map]
    omega
  rw [List.map_map]
  rw [sFz_r]
  show (sRet _ [_, _, _, _, .val (.list ((L.map xI).map .int)), _, _, _, _, _, _, _, _]) = _
  rw [sRet_r, eLc_eq (ds := ((L.map xI).zip (dealtV f (L.map (·.a)))).map fun p => .tuple [.int p.1, .int p.2]) (sArgs_eq (ds := [.list ((L.map xI).map .int), .list ((dealtV f (L.map (·.a))).map .int)]) (by simp only [eK_r, eV_0, eV_s, eB_0v, eB_0b, eB_0p, eB_0o, eB_s, eP_0v, eP_0b, eP_s, eS_0, eS_s, getS_0, getS_s, aNil_r, aCons_r, eOp_r, eUn_r, eCall_r, eBm_r, eTup_r, eLst_r, eIf_r, eAnd_r, eOr_r, eNot_r, eIs_r, eChain_r, eSl_r, oNo_r, oSo_r, asI_r, bT_r, bV_r, bYes_r, asB_r, truth_b, truth_l, truth_t, truth_n, truth_i, bAnd_r, bOr_r, bNot_r, oAdd_i, oSub_i, oNeg_i, oLt_i, oLe_i, oGt_i, oGe_i, cInt_i, cInt_b, cLen_l, cLen_t, cList_l, cList_t, cMax2_i, cMin2_i, cAbs_i, isT_int_i, isT_bool_i, isT_bool_b, isT_int_b, isT_tuple_t, isT_list_l, oEq_i, oNe_i, oEq_b, oNe_b, oIsN_n, oNotN_n, oIsN_i, oNotN_i, oIsB_b, oNotB_b, sSeqn_r, sNext_r, sBrk_r, sCnt_r, sRetN_r, sExpr_r, sRet_r, sRetOwn_r, sIf_r, sSet_r, sOwn_r, sAsg_r, gV_r, gT_r, gsNil_r, gsCons_r, sFz_r, sAug_r, addI_r, subI_r, sSeq_r, sArgs_r, itemsOf_l, itemsOf_t, sMut_r, fApp_r, Option.bind_some, Option.map_some, List.length_cons, List.length_nil, Nat.zero_add, Nat.reduceAdd, Nat.reduceLT, Nat.reduceLeDiff, List.set_cons_zero, List.set_cons_succ, if_true, Bool.false_eq_true, if_false, Bool.not_true, Bool.not_false, decide_true, decide_false, reduceCtorEq]) h2) h1 (by rw [List.length_map]; omega), Option.bind_some]
  rfl
/-- one round of the while loop -/
theorem shrRound (f : Int) (W : List Int) (L : List Gi) (hl : L.length ≤ 1000) (hf : 0 ≤ f ∧ f < 9223372036854775808) (hT : 0 ≤ actS L ∧ actS L < 9223372036854775808) (s6 s7 s8 s9 s10 s11 s12 : Slot) :
    (∃ t6 t7 t8, (zipS f L).any ovr = true ∧ L_shrink_widths_2 (RG f (L.map bI) W (L.map lI) L s6 s7 s8 s9 s10 s11 s12) = some (.nx (RG (f - ((zipS f L).map dec).sum) (L.map bI) W (L.map lI) ((zipS f L).map stp) t6 t7 t8 s9 s10 s11 s12))) ∨
    ((zipS f L).any ovr = false ∧ L_shrink_widths_2 (RG f (L.map bI) W (L.map lI) L s6 s7 s8 s9 s10 s11 s12) = some (.rt (.list ((((zipS f L).map fnl).map xI).map .int)))) := by
  have hT' : 0 ≤ (L.map fun g : Gi => g.a).sum ∧ (L.map fun g : Gi => g.a).sum < 9223372036854775808 := hT
  have hd := dealt_eq f (L.map fun g : Gi => g.a) (by omega) (by rw [List.length_map]; exact hl) hT'.1 (by omega)
  have hov := over_eq f W L hl s7 s9 s10 s11 s12
  have h6 : L_shrink_widths_2 (RG f (L.map bI) W (L.map lI) L s6 s7 s8 s9 s10 s11 s12) = (sSeqn (sIf (bNot (bV (eB 7)))
    (sFz 4 (sRet (eLc (sArgs zipI (aCons (eV 4) (aCons (eP 6) aNil))) (gT 2 (gsCons (gV 11) (gsCons (gV 12) gsNil))) bYes (eOp oSub (eB 11) (eB 12)) [11, 12])))
    sNext)
  (sFor (sSeq (eV 7)) (gV 8) L_shrink_widths_1)) (RG f (L.map bI) W (L.map lI) L (.val (.list ((dealtV f (L.map (·.a))).map .int))) (.val (.list ((idxs 0 (zipS f L)).map fun i : Nat => PyData.int (i : Int)))) s8 s9 s10 s11 s12) := by
    unfold L_shrink_widths_2
    rw [seq_nx (ρ' := RG f (L.map bI) W (L.map lI) L (.val (.list ((dealtV f (L.map (·.a))).map .int))) s7 s8 s9 s10 s11 s12) (by
      show sSet 6 _ [_, _, _, _, _, .own (.list ((L.map (·.a)).map .int)), _, _, _, _, _, _, _] = _
      simp only [eK_r, eV_0, eV_s, eB_0v, eB_0b, eB_0p, eB_0o, eB_s, eP_0v, eP_0b, eP_s, eS_0, eS_s, getS_0, getS_s, aNil_r, aCons_r, eOp_r, eUn_r, eCall_r, eBm_r, eTup_r, eLst_r, eIf_r, eAnd_r, eOr_r, eNot_r, eIs_r, eChain_r, eSl_r, oNo_r, oSo_r, asI_r, bT_r, bV_r, bYes_r, asB_r, truth_b, truth_l, truth_t, truth_n, truth_i, bAnd_r, bOr_r, bNot_r, oAdd_i, oSub_i, oNeg_i, oLt_i, oLe_i, oGt_i, oGe_i, cInt_i, cInt_b, cLen_l, cLen_t, cList_l, cList_t, cMax2_i, cMin2_i, cAbs_i, isT_int_i, isT_bool_i, isT_bool_b, isT_int_b, isT_tuple_t, isT_list_l, oEq_i, oNe_i, oEq_b, oNe_b, oIsN_n, oNotN_n, oIsN_i, oNotN_i, oIsB_b, oNotB_b, sSeqn_r, sNext_r, sBrk_r, sCnt_r, sRetN_r, sExpr_r, sRet_r, sRetOwn_r, sIf_r, sSet_r, sOwn_r, sAsg_r, gV_r, gT_r, gsNil_r, gsCons_r, sFz_r, sAug_r, addI_r, subI_r, sSeq_r, sArgs_r, itemsOf_l, itemsOf_t, sMut_r, fApp_r, Option.bind_some, Option.map_some, List.length_cons, List.length_nil, Nat.zero_add, Nat.reduceAdd, Nat.reduceLT, Nat.reduceLeDiff, List.set_cons_zero, List.set_cons_succ, if_true, Bool.false_eq_true, if_false, Bool.not_true, Bool.not_false, decide_true, decide_false, reduceCtorEq, hd])]
    have hov2 : eLc (sArgs rng1 (aCons (eCall cLen (aCons (eB 1) aNil)) aNil)) (gV 8) (bAnd (bT (eOp oGt (eOp oIx (eB 5) (eB 8)) (eK (.int 0)))) (bT (eOp oLt (eOp oSub (eOp oIx (eB 1) (eB 8)) (eOp oIx (eB 6) (eB 8))) (eOp oIx (eB 3) (eB 8))))) (eV 8) [8] (RG f (L.map bI) W (L.map lI) L (.val (.list ((dealtV f (L.map (·.a))).map .int))) s7 s8 s9 s10 s11 s12) = some (.list ((idxs 0 (zipS f L)).map fun i : Nat => PyData.int (i : Int))) := hov
    rw [seq_nx (sSet_eq hov2 (by simp))]
    rfl
  rw [h6]
  cases ho : (zipS f L).any ovr with
  | false =>
    right
    refine ⟨rfl, ?_⟩
    have hi := (idxs_nil (zipS f L) 0).mpr ho
    rw [hi]
    refine seq_rt ?_
    rw [sIf_r]
    have hb : bNot (bV (eB 7)) (RG f (L.map bI) W (L.map lI) L (.val (.list ((dealtV f (L.map (·.a))).map .int))) (.val (.list (([] : List Nat).map fun i : Nat => PyData.int (i : Int)))) s8 s9 s10 s11 s12) = some true := rfl
    rw [hb]
    exact shrRet f W L hl _ s8 s9 s10 s11 s12
  | true =>
    left
    have hi : idxs 0 (zipS f L) ≠ [] := fun z => by
      rw [(idxs_nil (zipS f L) 0).mp z] at ho; cases ho
    have hb : bNot (bV (eB 7)) (RG f (L.map bI) W (L.map lI) L (.val (.list ((dealtV f (L.map (·.a))).map .int))) (.val (.list ((idxs 0 (zipS f L)).map fun i : Nat => PyData.int (i : Int)))) s8 s9 s10 s11 s12) = some false := by
      cases hx : idxs 0 (zipS f L) with
      | nil => exact absurd hx hi
      | cons i r => rfl
    obtain ⟨t8, e⟩ := shrLoop W (.val (.list ((dealtV f (L.map (·.a))).map .int))) (.val (.list ((idxs 0 (zipS f L)).map fun i : Nat => PyData.int (i : Int)))) s9 s10 s11 s12 (zipS f L) [] f (L.map bI) (L.map lI) s8 (by
      rw [List.map_nil, List.nil_append]
      have : (zipS f L).map (fun z => bI z.1) = ((zipS f L).map (·.1)).map bI := by rw [List.map_map]; rfl
      rw [this, zip_fst]) (by
      rw [List.map_nil, List.nil_append]
      have : (zipS f L).map (fun z => lI z.1) = ((zipS f L).map (·.1)).map lI := by rw [List.map_map]; rfl
      rw [this, zip_fst])
    rw [List.nil_append, List.nil_append, zip_fst] at e
    refine ⟨.val (.list ((dealtV f (L.map (·.a))).map .int)), .val (.list ((idxs 0 (zipS f L)).map fun i : Nat => PyData.int (i : Int))), t8, rfl, ?_⟩
    rw [seq_nx (show sIf _ _ _ _ = some (.nx _) from by rw [sIf_r, hb]; rfl)]
    exact (sFor_eq (ds := (idxs 0 (zipS f L)).map fun i : Nat => PyData.int (i : Int)) rfl).trans e
theorem stp_bl (f : Int) (L : List Gi) : ((zipS f L).map stp).map (·.b) = L.map (·.b) ∧ ((zipS f L).map stp).map (·.l) = L.map (·.l) ∧ ((zipS f L).map stp).map (·.w) = L.map (·.w) := by
  have h : ((zipS f L).map stp).map core = L.map core := by
    rw [List.map_map]
    refine (List.map_congr_left (g := fun z => core z.1) fun z _ => stp_core z).trans ?_
    have : (zipS f L).map (fun z => core z.1) = ((zipS f L).map (·.1)).map core := by rw [List.map_map]; rfl
    rw [this, zip_fst]
  have h1 := congrArg (List.map fun p : Int × Int × Int => p.1) h
  have h2 := congrArg (List.map fun p : Int × Int × Int => p.2.2) h
  have h3 := congrArg (List.map fun p : Int × Int × Int => p.2.1) h
  have e1 : ∀ M : List Gi, (M.map core).map (fun p : Int × Int × Int => p.1) = M.map (·.b) := fun M => by rw [List.map_map]; rfl
  have e2 : ∀ M : List Gi, (M.map core).map (fun p : Int × Int × Int => p.2.2) = M.map (·.l) := fun M => by rw [List.map_map]; rfl
  have e3 : ∀ M : List Gi, (M.map core).map (fun p : Int × Int × Int => p.2.1) = M.map (·.w) := fun M => by rw [List.map_map]; rfl
  rw [e1, e1] at h1
  rw [e2, e2] at h2
  rw [e3, e3] at h3
  exact ⟨h1, h2, h3⟩
/-- bounds that the reckoning needs -/
def Small (L : List Gi) : Prop := L.length ≤ 1000 ∧ ∀ g ∈ L, g.w ≤ 1000000000000
theorem act_small {L : List Gi} (h : Small L) (ok : ∀ g ∈ L, GiOk g) : 0 ≤ actS L ∧ actS L < 9223372036854775808 := by
  refine ⟨sum_nn _ _ (act_nn ok), ?_⟩
  have h1 : (L.map (·.a)).sum ≤ (L.map fun _ => (1000000000000 : Int)).sum := sum_le (fun g : Gi => g.a) (fun _ => 1000000000000) L fun g hg => by
    obtain ⟨k1, k2, k3⟩ := ok g hg
    have := h.2 g hg
    omega
  have h2 : ∀ M : List Gi, (M.map fun _ => (1000000000000 : Int)).sum = 1000000000000 * (M.length : Int) := fun M => by
    induction M with
    | nil => rfl
    | cons a M ih => simp only [List.map_cons, List.sum_cons, ih, List.length_cons]; omega
  have := h2 L
  have := h.1
  unfold actS; omega
theorem small_stp {f : Int} {L : List Gi} (h : Small L) : Small ((zipS f L).map stp) := by
  refine ⟨by rw [List.length_map, zip_len]; exact h.1, fun g hg => ?_⟩
  obtain ⟨z, hz, rfl⟩ := List.mem_map.mp hg
  have hc := stp_core z
  unfold core at hc
  injection hc with h1 h2
  injection h2 with h2 h3
  rw [h2]
  exact h.2 _ (zip_mem f L hz)
theorem sum_ints (l : List Int) : cSum [.list (l.map .int)] = some (.int l.sum) := cSum_i
theorem goes_f {f0 f : Int} {L : List Gi} (G : Goes f0 f L) : f ≤ f0 := by
  have h1 : 0 ≤ gotG L := sum_nn _ _ fun g hg => by
    obtain ⟨k1, k2, k3⟩ := G.ok g hg
    show 0 ≤ g.x - g.b
    omega
  have := G.all
  omega
theorem stp_bI (f : Int) (L : List Gi) : ((zipS f L).map stp).map bI = L.map bI ∧ ((zipS f L).map stp).map lI = L.map lI := by
  obtain ⟨h1, h2, h3⟩ := stp_bl f L
  have e1 : ∀ M : List Gi, M.map bI = (M.map (·.b)).map fun i => -i := fun M => by rw [List.map_map]; rfl
  have e2 : ∀ M : List Gi, M.map lI = (M.map (·.l)).map fun i => -i := fun M => by rw [List.map_map]; rfl
  rw [e1, e1, e2, e2, h1, h2]
  exact ⟨rfl, rfl⟩
theorem shrWhile (W : List Int) {f0 : Int} (hf0 : f0 < 9223372036854775808) : ∀ (n : Nat) (f : Int) (L : List Gi) (s6 s7 s8 s9 s10 s11 s12 : Slot), Goes f0 f L → Small L → nact L ≤ n → ∀ fuel, n < fuel →
    (∃ t6 t7 t8 t9 t10 t11 t12 f' L', whileGo (bT (eOp oGt (eCall cSum (aCons (eB 5) aNil)) (eK (.int 0)))) L_shrink_widths_2 fuel (RG f (L.map bI) W (L.map lI) L s6 s7 s8 s9 s10 s11 s12) = some (.nx (RG f' (L'.map bI) W (L'.map lI) L' t6 t7 t8 t9 t10 t11 t12)) ∧ L' = grw n f L) ∨
    whileGo (bT (eOp oGt (eCall cSum (aCons (eB 5) aNil)) (eK (.int 0)))) L_shrink_widths_2 fuel (RG f (L.map bI) W (L.map lI) L s6 s7 s8 s9 s10 s11 s12) = some (.rt (.list (((grw n f L).map xI).map .int))) := by
  have tst : ∀ (f : Int) (L : List Gi) (s6 s7 s8 s9 s10 s11 s12 : Slot), bT (eOp oGt (eCall cSum (aCons (eB 5) aNil)) (eK (.int 0))) (RG f (L.map bI) W (L.map lI) L s6 s7 s8 s9 s10 s11 s12) = some (decide (0 < actS L)) := fun f L s6 s7 s8 s9 s10 s11 s12 => by
    show bT _ [_, _, _, _, _, .own (.list ((L.map (·.a)).map .int)), _, _, _, _, _, _, _] = _
    have := sum_ints (L.map (·.a))
    simp only [eK_r, eV_0, eV_s, eB_0v, eB_0b, eB_0p, eB_0o, eB_s, eP_0v, eP_0b, eP_s, eS_0, eS_s, getS_0, getS_s, aNil_r, aCons_r, eOp_r, eUn_r, eCall_r, eBm_r, eTup_r, eLst_r, eIf_r, eAnd_r, eOr_r, eNot_r, eIs_r, eChain_r, eSl_r, oNo_r, oSo_r, asI_r, bT_r, bV_r, bYes_r, asB_r, truth_b, truth_l, truth_t, truth_n, truth_i, bAnd_r, bOr_r, bNot_r, oAdd_i, oSub_i, oNeg_i, oLt_i, oLe_i, oGt_i, oGe_i, cInt_i, cInt_b, cLen_l, cLen_t, cList_l, cList_t, cMax2_i, cMin2_i, cAbs_i, isT_int_i, isT_bool_i, isT_bool_b, isT_int_b, isT_tuple_t, isT_list_l, oEq_i, oNe_i, oEq_b, oNe_b, oIsN_n, oNotN_n, oIsN_i, oNotN_i, oIsB_b, oNotB_b, sSeqn_r, sNext_r, sBrk_r, sCnt_r, sRetN_r, sExpr_r, sRet_r, sRetOwn_r, sIf_r, sSet_r, sOwn_r, sAsg_r, gV_r, gT_r, gsNil_r, gsCons_r, sFz_r, sAug_r, addI_r, subI_r, sSeq_r, sArgs_r, itemsOf_l, itemsOf_t, sMut_r, fApp_r, Option.bind_some, Option.map_some, List.length_cons, List.length_nil, Nat.zero_add, Nat.reduceAdd, Nat.reduceLT, Nat.reduceLeDiff, List.set_cons_zero, List.set_cons_succ, if_true, Bool.false_eq_true, if_false, Bool.not_true, Bool.not_false, decide_true, decide_false, reduceCtorEq, this]
    rfl
  intro n
  induction n with
  | zero =>
    intro f L s6 s7 s8 s9 s10 s11 s12 G hs hn fuel hfu
    have hT := nact_zero (act_nn G.ok) (Nat.le_zero.mp hn)
    obtain ⟨k, rfl⟩ : ∃ k, fuel = k + 1 := ⟨fuel - 1, by omega⟩
    left
    refine ⟨s6, s7, s8, s9, s10, s11, s12, f, L, ?_, rfl⟩
    unfold whileGo
    rw [tst, hT, Option.bind_some, if_neg (by decide)]
  | succ n ih =>
    intro f L s6 s7 s8 s9 s10 s11 s12 G hs hn fuel hfu
    obtain ⟨k, rfl⟩ : ∃ k, fuel = k + 1 := ⟨fuel - 1, by omega⟩
    have hact := act_small hs G.ok
    unfold whileGo grw
    rw [tst, Option.bind_some]
    by_cases hT : actS L = 0
    · left
      refine ⟨s6, s7, s8, s9, s10, s11, s12, f, L, ?_, by rw [if_pos hT]⟩
      rw [hT, if_neg (by decide)]
    · have hp : 0 < actS L := by omega
      rw [decide_eq_true hp, if_pos rfl, if_neg hT]
      have hff := goes_f G
      rcases shrRound f W L hs.1 ⟨G.nf, by omega⟩ hact s6 s7 s8 s9 s10 s11 s12 with ⟨t6, t7, t8, ho, e⟩ | ⟨ho, e⟩
      · rw [e, Option.bind_some, if_pos ho]
        obtain ⟨b1, b2⟩ := stp_bI f L
        have hl := nact_less f L ho
        have := ih (f - ((zipS f L).map dec).sum) ((zipS f L).map stp) t6 t7 t8 s9 s10 s11 s12 (goes_step G hp) (small_stp hs) (by omega) k (by omega)
        rw [b1, b2] at this
        exact this
      · right
        rw [e, Option.bind_some, if_neg (by rw [ho]; exact Bool.false_ne_true)]
/-- rows at the start -/
def gi0 (r : Int × Int × Int) : Gi := ⟨r.1, r.2.1, r.2.2, r.2.1, r.1⟩
def RowOk (r : Int × Int × Int) : Prop := 0 ≤ r.2.1 ∧ r.2.1 ≤ 1000000000000 ∧ r.1 ≤ r.2.2
theorem goes0 (f : Int) (hf : 0 ≤ f) (R : List (Int × Int × Int)) (h : ∀ r ∈ R, RowOk r) : Goes f f (R.map gi0) := by
  refine ⟨fun g hg => ?_, hf, ?_, fun g hg hw ha => ?_⟩
  · obtain ⟨r, hr, rfl⟩ := List.mem_map.mp hg
    obtain ⟨h1, h2, h3⟩ := h r hr
    exact ⟨h1, h3, .inl ⟨rfl, rfl⟩⟩
  · have : gotG (R.map gi0) = 0 := by
      unfold gotG
      rw [List.map_map]
      have : R.map ((fun g : Gi => g.x - g.b) ∘ gi0) = R.map fun _ => 0 := List.map_congr_left fun r _ => by
        show r.1 - r.1 = 0
        omega
      rw [this]
      clear this h
      induction R with
      | nil => rfl
      | cons a l ih => simp [ih]
    omega
  · obtain ⟨r, hr, rfl⟩ := List.mem_map.mp hg
    have hw : 0 < r.2.1 := hw
    have ha : r.2.1 = 0 := ha
    omega
theorem small0 (R : List (Int × Int × Int)) (hl : R.length ≤ 1000) (h : ∀ r ∈ R, RowOk r) : Small (R.map gi0) :=
  ⟨by rw [List.length_map]; exact hl, fun g hg => by
    obtain ⟨r, hr, rfl⟩ := List.mem_map.mp hg
    exact (h r hr).2.1⟩
theorem nact_len (L : List Gi) : nact L ≤ L.length := List.countP_le_length
noncomputable def outG (f : Int) (R : List (Int × Int × Int)) : List Gi := grw (R.length + 1) f (R.map gi0)
/-- the rows of the law: base, weight, limit, factor -/
abbrev Q4 := Int × Int × Int × Int
def coreQ (q : Q4) : Int × Int × Int := (-q.1, q.2.1, -q.2.2.1)
def QOk (q : Q4) : Prop := 0 ≤ q.1 ∧ q.1 ≤ 1000000000 ∧ 0 ≤ q.2.2.2 ∧ q.2.2.2 ≤ 101 ∧ q.2.1 = q.2.2.2 * q.1 ∧ 0 ≤ q.2.2.1 ∧ q.2.2.1 ≤ q.1
theorem q_row {q : Q4} (h : QOk q) : RowOk (coreQ q) := by
  obtain ⟨h1, h2, h3, h4, h5, h6, h7⟩ := h
  refine ⟨?_, ?_, ?_⟩
  · show 0 ≤ q.2.1
    rw [h5]; exact Int.mul_nonneg h3 h1
  · show q.2.1 ≤ 1000000000000
    rw [h5]
    have := Int.mul_le_mul h4 h2 h1 (by omega)
    omega
  · show -q.1 ≤ -q.2.2.1
    omega
theorem shr_eq (f : Int) (hf : 0 ≤ f ∧ f < 9223372036854775808) (Q : List Q4) (hl : Q.length ≤ 1000) (h : ∀ q ∈ Q, QOk q) :
    F_shrink_widths [.int f, .list ((Q.map (·.1)).map .int), .list ((Q.map (·.2.2.2)).map .int), .list ((Q.map (·.2.2.1)).map .int)] = some (.list (((outG f (Q.map coreQ)).map xI).map .int)) := by
  refine box_rt rfl ?_
  have hR : ∀ r ∈ Q.map coreQ, RowOk r := fun r hr => by
    obtain ⟨q, hq, rfl⟩ := List.mem_map.mp hr
    exact q_row (h q hq)
  have hlR : (Q.map coreQ).length ≤ 1000 := by rw [List.length_map]; exact hl
  have hG := goes0 f hf.1 (Q.map coreQ) hR
  have hS := small0 (Q.map coreQ) hlR hR
  have hn := nact_len ((Q.map coreQ).map gi0)
  rw [List.length_map] at hn
  have hw := shrWhile (Q.map (·.2.2.2)) hf.2 ((Q.map coreQ).length + 1) f ((Q.map coreQ).map gi0) .un .un .un .un .un .un .un hG hS (by omega) 100000 (by omega)
  have eb : ((Q.map coreQ).map gi0).map bI = Q.map (·.1) := by
    rw [List.map_map, List.map_map]
    refine List.map_congr_left fun q _ => ?_
    show -(-q.1) = q.1
    omega
  have el : ((Q.map coreQ).map gi0).map lI = Q.map (·.2.2.1) := by
    rw [List.map_map, List.map_map]
    refine List.map_congr_left fun q _ => ?_
    show -(-q.2.2.1) = q.2.2.1
    omega
  have ea : ((Q.map coreQ).map gi0).map (·.a) = Q.map (·.2.1) := by rw [List.map_map, List.map_map]; rfl
  have ex : ((Q.map coreQ).map gi0).map xI = Q.map (·.1) := by
    rw [List.map_map, List.map_map]
    refine List.map_congr_left fun q _ => ?_
    show -(-q.1) = q.1
    omega
  unfold RG at hw
  rw [eb, el, ea, ex] at hw
  have h5 : (eLc (sArgs zipI (aCons (eP 2) (aCons (eP 1) aNil))) (gT 2 (gsCons (gV 9) (gsCons (gV 10) gsNil))) bYes (eOp oMulS (eB 9) (eB 10)) [9, 10]) [.val (.int f), .bor (.list ((Q.map (·.1)).map .int)), .bor (.list ((Q.map (·.2.2.2)).map .int)), .bor (.list ((Q.map (·.2.2.1)).map .int)), .own (.list ((Q.map (·.1)).map .int)), .un, .un, .un, .un, .un, .un, .un, .un] = some (.list ((Q.map (·.2.1)).map .int)) := by
    have z1 : zipI [.list ((Q.map (·.2.2.2)).map .int), .list ((Q.map (·.1)).map .int)] = some (Q.map fun q => .tuple [.int q.2.2.2, .int q.1]) := by
      show some (zipD _ _) = _
      rw [zipD_ints]
      congr 1
      rw [List.zip_map', List.map_map]; rfl
    refine eLc_eq (ds := Q.map fun q => .tuple [.int q.2.2.2, .int q.1]) (sArgs_eq (ds := [.list ((Q.map (·.2.2.2)).map .int), .list ((Q.map (·.1)).map .int)]) (by simp only [eK_r, eV_0, eV_s, eB_0v, eB_0b, eB_0p, eB_0o, eB_s, eP_0v, eP_0b, eP_s, eS_0, eS_s, getS_0, getS_s, aNil_r, aCons_r, eOp_r, eUn_r, eCall_r, eBm_r, eTup_r, eLst_r, eIf_r, eAnd_r, eOr_r, eNot_r, eIs_r, eChain_r, eSl_r, oNo_r, oSo_r, asI_r, bT_r, bV_r, bYes_r, asB_r, truth_b, truth_l, truth_t, truth_n, truth_i, bAnd_r, bOr_r, bNot_r, oAdd_i, oSub_i, oNeg_i, oLt_i, oLe_i, oGt_i, oGe_i, cInt_i, cInt_b, cLen_l, cLen_t, cList_l, cList_t, cMax2_i, cMin2_i, cAbs_i, isT_int_i, isT_bool_i, isT_bool_b, isT_int_b, isT_tuple_t, isT_list_l, oEq_i, oNe_i, oEq_b, oNe_b, oIsN_n, oNotN_n, oIsN_i, oNotN_i, oIsB_b, oNotB_b, sSeqn_r, sNext_r, sBrk_r, sCnt_r, sRetN_r, sExpr_r, sRet_r, sRetOwn_r, sIf_r, sSet_r, sOwn_r, sAsg_r, gV_r, gT_r, gsNil_r, gsCons_r, sFz_r, sAug_r, addI_r, subI_r, sSeq_r, sArgs_r, itemsOf_l, itemsOf_t, sMut_r, fApp_r, Option.bind_some, Option.map_some, List.length_cons, List.length_nil, Nat.zero_add, Nat.reduceAdd, Nat.reduceLT, Nat.reduceLeDiff, List.set_cons_zero, List.set_cons_succ, if_true, Bool.false_eq_true, if_false, Bool.not_true, Bool.not_false, decide_true, decide_false, reduceCtorEq]) z1) ?_ (by rw [List.length_map, List.length_map]; omega)
    refine lc_int _ _ Q fun q hq => ?_
    refine ⟨_, rfl, rfl, ?_⟩
    obtain ⟨k1, k2, k3, k4, k5, k6, k7⟩ := h q hq
    have m1 : oMulS (.int q.2.2.2) (.int q.1) = some (.int (q.2.2.2 * q.1)) := oMul_r (by omega) (by omega)
    rw [← k5] at m1
    exact m1
  show B_shrink_widths [.val (.int f), .bor (.list ((Q.map (·.1)).map .int)), .bor (.list ((Q.map (·.2.2.2)).map .int)), .bor (.list ((Q.map (·.2.2.1)).map .int)), .un, .un, .un, .un, .un, .un, .un, .un, .un] = _
  unfold B_shrink_widths
  rw [seq_nx (ρ' := [.val (.int f), .bor (.list ((Q.map (·.1)).map .int)), .bor (.list ((Q.map (·.2.2.2)).map .int)), .bor (.list ((Q.map (·.2.2.1)).map .int)), .own (.list ((Q.map (·.1)).map .int)), .un, .un, .un, .un, .un, .un, .un, .un]) (by simp only [eK_r, eV_0, eV_s, eB_0v, eB_0b, eB_0p, eB_0o, eB_s, eP_0v, eP_0b, eP_s, eS_0, eS_s, getS_0, getS_s, aNil_r, aCons_r, eOp_r, eUn_r, eCall_r, eBm_r, eTup_r, eLst_r, eIf_r, eAnd_r, eOr_r, eNot_r, eIs_r, eChain_r, eSl_r, oNo_r, oSo_r, asI_r, bT_r, bV_r, bYes_r, asB_r, truth_b, truth_l, truth_t, truth_n, truth_i, bAnd_r, bOr_r, bNot_r, oAdd_i, oSub_i, oNeg_i, oLt_i, oLe_i, oGt_i, oGe_i, cInt_i, cInt_b, cLen_l, cLen_t, cList_l, cList_t, cMax2_i, cMin2_i, cAbs_i, isT_int_i, isT_bool_i, isT_bool_b, isT_int_b, isT_tuple_t, isT_list_l, oEq_i, oNe_i, oEq_b, oNe_b, oIsN_n, oNotN_n, oIsN_i, oNotN_i, oIsB_b, oNotB_b, sSeqn_r, sNext_r, sBrk_r, sCnt_r, sRetN_r, sExpr_r, sRet_r, sRetOwn_r, sIf_r, sSet_r, sOwn_r, sAsg_r, gV_r, gT_r, gsNil_r, gsCons_r, sFz_r, sAug_r, addI_r, subI_r, sSeq_r, sArgs_r, itemsOf_l, itemsOf_t, sMut_r, fApp_r, Option.bind_some, Option.map_some, List.length_cons, List.length_nil, Nat.zero_add, Nat.reduceAdd, Nat.reduceLT, Nat.reduceLeDiff, List.set_cons_zero, List.set_cons_succ, if_true, Bool.false_eq_true, if_false, Bool.not_true, Bool.not_false, decide_true, decide_false, reduceCtorEq])]
  rw [seq_nx (sOwn_eq h5 (by simp))]
  show sSeqn _ _ [.val (.int f), .bor (.list ((Q.map (·.1)).map .int)), .bor (.list ((Q.map (·.2.2.2)).map .int)), .bor (.list ((Q.map (·.2.2.1)).map .int)), .own (.list ((Q.map (·.1)).map .int)), .own (.list ((Q.map (·.2.1)).map .int)), .un, .un, .un, .un, .un, .un, .un] = _
  rcases hw with ⟨t6, t7, t8, t9, t10, t11, t12, f', L', e, rfl⟩ | e
  · rw [seq_nx (show sWhile 100000 _ L_shrink_widths_2 _ = some (.nx _) from e)]
    simp only [eK_r, eV_0, eV_s, eB_0v, eB_0b, eB_0p, eB_0o, eB_s, eP_0v, eP_0b, eP_s, eS_0, eS_s, getS_0, getS_s, aNil_r, aCons_r, eOp_r, eUn_r, eCall_r, eBm_r, eTup_r, eLst_r, eIf_r, eAnd_r, eOr_r, eNot_r, eIs_r, eChain_r, eSl_r, oNo_r, oSo_r, asI_r, bT_r, bV_r, bYes_r, asB_r, truth_b, truth_l, truth_t, truth_n, truth_i, bAnd_r, bOr_r, bNot_r, oAdd_i, oSub_i, oNeg_i, oLt_i, oLe_i, oGt_i, oGe_i, cInt_i, cInt_b, cLen_l, cLen_t, cList_l, cList_t, cMax2_i, cMin2_i, cAbs_i, isT_int_i, isT_bool_i, isT_bool_b, isT_int_b, isT_tuple_t, isT_list_l, oEq_i, oNe_i, oEq_b, oNe_b, oIsN_n, oNotN_n, oIsN_i, oNotN_i, oIsB_b, oNotB_b, sSeqn_r, sNext_r, sBrk_r, sCnt_r, sRetN_r, sExpr_r, sRet_r, sRetOwn_r, sIf_r, sSet_r, sOwn_r, sAsg_r, gV_r, gT_r, gsNil_r, gsCons_r, sFz_r, sAug_r, addI_r, subI_r, sSeq_r, sArgs_r, itemsOf_l, itemsOf_t, sMut_r, fApp_r, Option.bind_some, Option.map_some, List.length_cons, List.length_nil, Nat.zero_add, Nat.reduceAdd, Nat.reduceLT, Nat.reduceLeDiff, List.set_cons_zero, List.set_cons_succ, if_true, Bool.false_eq_true, if_false, Bool.not_true, Bool.not_false, decide_true, decide_false, reduceCtorEq]; rfl
  · rw [seq_rt (show sWhile 100000 _ L_shrink_widths_2 _ = some (.rt _) from e)]; rfl
/-! ### the law's own reckoning -/
def encQ (q : Q4) : PyData := .tuple [.int q.1, .int q.2.1, .int q.2.2.1, .int q.2.2.2]
def stl (g : Gi) : PyData := .bool (decide (g.a = 0))
def rowD (R : List Q4) (i : Nat) : PyData := ((R.map encQ)[i]?).getD .none
theorem rows_len {R : List Q4} {L : List Gi} (hc : L.map core = R.map coreQ) : R.length = L.length := by
  have := congrArg List.length hc
  rw [List.length_map, List.length_map] at this
  omega
theorem row_q (R : List Q4) (L : List Gi) (hc : L.map core = R.map coreQ) (i : Nat) (g : Gi) (h : L[i]? = some g) : ∃ q, R[i]? = some q ∧ core g = coreQ q := by
  have hi := (List.getElem?_eq_some_iff.mp h).1
  have hl := rows_len hc
  refine ⟨R[i]'(by omega), List.getElem?_eq_getElem (by omega), ?_⟩
  have := congrArg (·[i]?) hc
  simp only [List.getElem?_map] at this
  rw [h, List.getElem?_eq_getElem (show i < R.length by omega)] at this
  simpa using this
theorem row_at (R : List Q4) (L : List Gi) (hc : L.map core = R.map coreQ) (i : Nat) (g : Gi) (h : L[i]? = some g) : oIx (.list (R.map encQ)) (.int (i : Nat)) = some (rowD R i) := by
  obtain ⟨q, hq, _⟩ := row_q R L hc i g h
  rw [oIx_l, atI_pos (by omega), Int.toNat_natCast]
  unfold rowD
  rw [List.getElem?_map, hq]; rfl
theorem encA (R : List Q4) (L : List Gi) (hc : L.map core = R.map coreQ) (i : Nat) (g : Gi) (h : L[i]? = some g) : oIx (rowD R i) (.int 0) = some (.int (bI g)) ∧ oIx (rowD R i) (.int 1) = some (.int g.w) ∧ oIx (rowD R i) (.int 2) = some (.int (lI g)) := by
  obtain ⟨q, hq, e⟩ := row_q R L hc i g h
  have hd : rowD R i = encQ q := by unfold rowD; rw [List.getElem?_map, hq]; rfl
  rw [hd]
  unfold core coreQ at e
  injection e with e1 e
  injection e with e2 e3
  unfold bI lI
  rw [e1, e2, e3, Int.neg_neg, Int.neg_neg]
  exact ⟨rfl, rfl, rfl⟩
theorem stl_at (L : List Gi) (i : Nat) (g : Gi) (h : L[i]? = some g) : oIx (.list (L.map stl)) (.int (i : Nat)) = some (.bool (decide (g.a = 0))) := by
  rw [oIx_l, atI_pos (by omega), Int.toNat_natCast, List.getElem?_map, h]; rfl
theorem take_s {α : Type} (L : List α) (i : Nat) (g : α) (h : L[i]? = some g) : L.take (i + 1) = L.take i ++ [g] ∧ L.drop i = g :: L.drop (i + 1) ∧ (L.take i).length = i := by
  have hi := (List.getElem?_eq_some_iff.mp h).1
  refine ⟨by rw [List.take_add_one, h]; rfl, drop_cons h, by rw [List.length_take]; omega⟩
abbrev RR (f : Int) (R : List Q4) (L : List Gi) (T : Int) (S : List Int) (r : Int) (s6 s7 : Slot) : Rho := [.val (.int f), .bor (.list (R.map encQ)), .bor (.list (L.map stl)), .val (.int T), .own (.list (S.map .int)), .val (.int r), s6, s7]
theorem round_eq (f : Int) (hf : 0 ≤ f ∧ f < 9223372036854775808) (R : List Q4) (L : List Gi) (hc : L.map core = R.map coreQ) (ok : ∀ g ∈ L, GiOk g) (hl : L.length ≤ 1000) (hT : 0 < actS L ∧ actS L < 9223372036854775808) :
    F__law_round [.int f, .list (R.map encQ), .list (L.map stl)] = some (.list ((dealtV f (L.map (·.a))).map .int)) := by
  have hRl : (R.map encQ).length = L.length := by rw [List.length_map]; exact rows_len hc
  have hset : ∀ g ∈ L, (if decide (g.a = 0) = true then 0 else g.w) = g.a := fun g hg => by
    obtain ⟨k1, k2, k3⟩ := ok g hg
    by_cases c : g.a = 0
    · rw [if_pos (by rw [decide_eq_true c]), c]
    · rw [if_neg (by rw [decide_eq_false c]; exact Bool.false_ne_true)]; omega
  let q : Gi → Int := fun g => f * g.a / actS L
  have hsum : eCall cSum (aCons (eLc (sArgs enumI (aCons (eP 1) aNil)) (gT 2 (gsCons (gV 6) (gsCons (gV 7) gsNil))) (bNot (bV (eOp oIx (eB 2) (eB 6)))) (eOp oIx (eB 7) (eK (.int 1))) [6, 7]) aNil) [.val (.int f), .bor (.list (R.map encQ)), .bor (.list (L.map stl)), .un, .un, .un, .un, .un] = some (.int (actS L)) := by
    have hen : enumI [.list (R.map encQ)] = some ((L.zipIdx).map fun p : Gi × Nat => PyData.tuple [.int (p.2 : Nat), rowD R p.2]) := by
      show some (enumD 0 (R.map encQ)) = _
      congr 1
      apply List.ext_getElem?
      intro i
      have hrl := rows_len hc
      rw [enumD_get, List.getElem?_map, List.getElem?_map, List.getElem?_zipIdx]
      cases hL : L[i]? with
      | none =>
        have := List.getElem?_eq_none_iff.mp hL
        rw [List.getElem?_eq_none (by omega)]; rfl
      | some g =>
        obtain ⟨q, hq, _⟩ := row_q R L hc i g hL
        unfold rowD
        simp [hq]
    have hg := lcGo_filter (ρ := [.val (.int f), .bor (.list (R.map encQ)), .bor (.list (L.map stl)), .un, .un, .un, .un, .un]) (g := gT 2 (gsCons (gV 6) (gsCons (gV 7) gsNil))) (t := bNot (bV (eOp oIx (eB 2) (eB 6)))) (e := eOp oIx (eB 7) (eK (.int 1))) (fun p : Gi × Nat => PyData.tuple [.int (p.2 : Nat), rowD R p.2]) (fun p => PyData.int p.1.w) (fun p => !decide (p.1.a = 0)) L.zipIdx fun p hp => by
      have hp := List.mem_zipIdx_iff_getElem?.mp hp
      have x1 := stl_at L p.2 p.1 hp
      have x2 := (encA R L hc p.2 p.1 hp).2.1
      refine ⟨[.val (.int f), .bor (.list (R.map encQ)), .bor (.list (L.map stl)), .un, .un, .un, .val (.int (p.2 : Nat)), .val (rowD R p.2)], rfl, ?_, fun _ => ?_⟩
      · generalize PyData.list (L.map stl) = LS at *
        simp only [eK_r, eV_0, eV_s, eB_0v, eB_0b, eB_0p, eB_0o, eB_s, eP_0v, eP_0b, eP_s, eS_0, eS_s, getS_0, getS_s, aNil_r, aCons_r, eOp_r, eUn_r, eCall_r, eBm_r, eTup_r, eLst_r, eIf_r, eAnd_r, eOr_r, eNot_r, eIs_r, eChain_r, eSl_r, oNo_r, oSo_r, asI_r, bT_r, bV_r, bYes_r, asB_r, truth_b, truth_l, truth_t, truth_n, truth_i, bAnd_r, bOr_r, bNot_r, oAdd_i, oSub_i, oNeg_i, oLt_i, oLe_i, oGt_i, oGe_i, cInt_i, cInt_b, cLen_l, cLen_t, cList_l, cList_t, cMax2_i, cMin2_i, cAbs_i, isT_int_i, isT_bool_i, isT_bool_b, isT_int_b, isT_tuple_t, isT_list_l, oEq_i, oNe_i, oEq_b, oNe_b, oIsN_n, oNotN_n, oIsN_i, oNotN_i, oIsB_b, oNotB_b, sSeqn_r, sNext_r, sBrk_r, sCnt_r, sRetN_r, sExpr_r, sRet_r, sRetOwn_r, sIf_r, sSet_r, sOwn_r, sAsg_r, gV_r, gT_r, gsNil_r, gsCons_r, sFz_r, sAug_r, addI_r, subI_r, sSeq_r, sArgs_r, itemsOf_l, itemsOf_t, sMut_r, fApp_r, Option.bind_some, Option.map_some, List.length_cons, List.length_nil, Nat.zero_add, Nat.reduceAdd, Nat.reduceLT, Nat.reduceLeDiff, List.set_cons_zero, List.set_cons_succ, if_true, Bool.false_eq_true, if_false, Bool.not_true, Bool.not_false, decide_true, decide_false, reduceCtorEq, x1]
      · simp only [eK_r, eV_0, eV_s, eB_0v, eB_0b, eB_0p, eB_0o, eB_s, eP_0v, eP_0b, eP_s, eS_0, eS_s, getS_0, getS_s, aNil_r, aCons_r, eOp_r, eUn_r, eCall_r, eBm_r, eTup_r, eLst_r, eIf_r, eAnd_r, eOr_r, eNot_r, eIs_r, eChain_r, eSl_r, oNo_r, oSo_r, asI_r, bT_r, bV_r, bYes_r, asB_r, truth_b, truth_l, truth_t, truth_n, truth_i, bAnd_r, bOr_r, bNot_r, oAdd_i, oSub_i, oNeg_i, oLt_i, oLe_i, oGt_i, oGe_i, cInt_i, cInt_b, cLen_l, cLen_t, cList_l, cList_t, cMax2_i, cMin2_i, cAbs_i, isT_int_i, isT_bool_i, isT_bool_b, isT_int_b, isT_tuple_t, isT_list_l, oEq_i, oNe_i, oEq_b, oNe_b, oIsN_n, oNotN_n, oIsN_i, oNotN_i, oIsB_b, oNotB_b, sSeqn_r, sNext_r, sBrk_r, sCnt_r, sRetN_r, sExpr_r, sRet_r, sRetOwn_r, sIf_r, sSet_r, sOwn_r, sAsg_r, gV_r, gT_r, gsNil_r, gsCons_r, sFz_r, sAug_r, addI_r, subI_r, sSeq_r, sArgs_r, itemsOf_l, itemsOf_t, sMut_r, fApp_r, Option.bind_some, Option.map_some, List.length_cons, List.length_nil, Nat.zero_add, Nat.reduceAdd, Nat.reduceLT, Nat.reduceLeDiff, List.set_cons_zero, List.set_cons_succ, if_true, Bool.false_eq_true, if_false, Bool.not_true, Bool.not_false, decide_true, decide_false, reduceCtorEq, x2]
    have hm : (L.zipIdx.filter fun p => !decide (p.1.a = 0)).map (fun p : Gi × Nat => PyData.int p.1.w) = ((L.zipIdx.filter fun p => !decide (p.1.a = 0)).map (fun p : Gi × Nat => p.1.w)).map .int := by rw [List.map_map]; rfl
    rw [hm] at hg
    have hs : ((L.zipIdx.filter fun p => !decide (p.1.a = 0)).map (fun p : Gi × Nat => p.1.w)).sum = actS L := by
      have gen : ∀ (M : List Gi) (n : Nat), (∀ g ∈ M, (if decide (g.a = 0) = true then 0 else g.w) = g.a) → (((M.zipIdx n).filter fun p => !decide (p.1.a = 0)).map (fun p : Gi × Nat => p.1.w)).sum = (M.map (·.a)).sum := by
        intro M
        induction M with
        | nil => intro n _; rfl
        | cons g M ih =>
          intro n h
          have h1 := h g List.mem_cons_self
          have h2 := ih (n + 1) fun x hx => h x (List.mem_cons_of_mem _ hx)
          rw [List.zipIdx_cons, List.filter_cons]
          by_cases c : g.a = 0
          · rw [decide_eq_true c] at h1
            simp only [c, decide_true, Bool.not_true, Bool.false_eq_true, if_false, List.map_cons, List.sum_cons, h2]
            omega
          · rw [decide_eq_false c, if_neg Bool.false_ne_true] at h1
            simp only [c, decide_false, Bool.not_false, if_true, List.map_cons, List.sum_cons, h2, h1]
      exact gen L 0 hset
    rw [eCall_r, aCons_r, eLc_eq (sArgs_eq (ds := [.list (R.map encQ)]) (by simp only [eK_r, eV_0, eV_s, eB_0v, eB_0b, eB_0p, eB_0o, eB_s, eP_0v, eP_0b, eP_s, eS_0, eS_s, getS_0, getS_s, aNil_r, aCons_r, eOp_r, eUn_r, eCall_r, eBm_r, eTup_r, eLst_r, eIf_r, eAnd_r, eOr_r, eNot_r, eIs_r, eChain_r, eSl_r, oNo_r, oSo_r, asI_r, bT_r, bV_r, bYes_r, asB_r, truth_b, truth_l, truth_t, truth_n, truth_i, bAnd_r, bOr_r, bNot_r, oAdd_i, oSub_i, oNeg_i, oLt_i, oLe_i, oGt_i, oGe_i, cInt_i, cInt_b, cLen_l, cLen_t, cList_l, cList_t, cMax2_i, cMin2_i, cAbs_i, isT_int_i, isT_bool_i, isT_bool_b, isT_int_b, isT_tuple_t, isT_list_l, oEq_i, oNe_i, oEq_b, oNe_b, oIsN_n, oNotN_n, oIsN_i, oNotN_i, oIsB_b, oNotB_b, sSeqn_r, sNext_r, sBrk_r, sCnt_r, sRetN_r, sExpr_r, sRet_r, sRetOwn_r, sIf_r, sSet_r, sOwn_r, sAsg_r, gV_r, gT_r, gsNil_r, gsCons_r, sFz_r, sAug_r, addI_r, subI_r, sSeq_r, sArgs_r, itemsOf_l, itemsOf_t, sMut_r, fApp_r, Option.bind_some, Option.map_some, List.length_cons, List.length_nil, Nat.zero_add, Nat.reduceAdd, Nat.reduceLT, Nat.reduceLeDiff, List.set_cons_zero, List.set_cons_succ, if_true, Bool.false_eq_true, if_false, Bool.not_true, Bool.not_false, decide_true, decide_false, reduceCtorEq]) hen) hg (by
      rw [List.length_map, List.length_map]
      have := List.length_filter_le (fun p : Gi × Nat => !decide (p.1.a = 0)) L.zipIdx
      rw [List.length_zipIdx] at this
      omega)]
    rw [Option.bind_some, aNil_r, Option.bind_some, Option.bind_some, cSum_i, hs]
  -- the first loop
  obtain ⟨ρ1, e1, s6, rfl⟩ := for_rng (g := gV 6) (b := L__law_round_1) (ρ := RR f R L (actS L) (L.map fun _ => 0) f .un .un) 0 L.length (fun i ρ => ∃ s6, ρ = RR f R L (actS L) ((L.take i).map q ++ (L.drop i).map fun _ => 0) (f - ((L.take i).map q).sum) s6 .un) ⟨.un, by rw [List.take_zero, List.drop_zero, List.map_nil, List.nil_append, List.sum_nil, Int.sub_zero]⟩ (by
    rintro i ρ hi ⟨s6, rfl⟩
    rw [Int.zero_add]
    obtain ⟨g, hg⟩ : ∃ g, L[i]? = some g := ⟨_, List.getElem?_eq_getElem hi⟩
    obtain ⟨t1, t2, t3⟩ := take_s L i g hg
    have x1 := stl_at L i g hg
    have x2 := row_at R L hc i g hg
    have x3 := (encA R L hc i g hg).2.1
    obtain ⟨k1, k2, k3⟩ := ok g (List.mem_of_getElem? hg)
    refine ⟨RR f R L (actS L) ((L.take i).map q ++ (L.drop i).map fun _ => 0) (f - ((L.take i).map q).sum) (.val (.int (i : Nat))) .un, RR f R L (actS L) ((L.take (i + 1)).map q ++ (L.drop (i + 1)).map fun _ => 0) (f - ((L.take (i + 1)).map q).sum) (.val (.int (i : Nat))) .un, rfl, ?_, _, rfl⟩
    have hP : ((L.take i).map q).length = i := by rw [List.length_map]; exact t3
    have es : f - ((L.take (i + 1)).map q).sum = f - ((L.take i).map q).sum - q g := by
      rw [t1, List.map_append, List.sum_append]
      simp only [List.map_cons, List.map_nil, List.sum_cons, List.sum_nil]; omega
    have eL : (L.take (i + 1)).map q ++ (L.drop (i + 1)).map (fun _ => (0 : Int)) = (L.take i).map q ++ q g :: (L.drop (i + 1)).map fun _ => 0 := by
      rw [t1, List.map_append, List.append_assoc]; rfl
    rw [t2, List.map_cons, eL, es]
    have p1 := put_mid ((L.take i).map q) ((L.drop (i + 1)).map fun _ => (0 : Int)) 0 (q g) i hP
    have p2 := at_mid ((L.take i).map q) ((L.drop (i + 1)).map fun _ => (0 : Int)) (q g) i hP
    generalize ((L.take i).map q).sum = sm at *
    unfold L__law_round_1
    by_cases c : g.a = 0
    · rw [decide_eq_true c] at x1
      have hq : q g = 0 := by
        show f * g.a / actS L = 0
        rw [c, Int.mul_zero, Int.zero_ediv]
      rw [hq, Int.sub_zero]
      unfold RR
      generalize ((L.take i).map q ++ 0 :: (L.drop (i + 1)).map fun _ => (0 : Int)).map PyData.int = SS at *
      generalize PyData.list (L.map stl) = LS at *
      generalize PyData.list (R.map encQ) = RS at *
      simp only [eK_r, eV_0, eV_s, eB_0v, eB_0b, eB_0p, eB_0o, eB_s, eP_0v, eP_0b, eP_s, eS_0, eS_s, getS_0, getS_s, aNil_r, aCons_r, eOp_r, eUn_r, eCall_r, eBm_r, eTup_r, eLst_r, eIf_r, eAnd_r, eOr_r, eNot_r, eIs_r, eChain_r, eSl_r, oNo_r, oSo_r, asI_r, bT_r, bV_r, bYes_r, asB_r, truth_b, truth_l, truth_t, truth_n, truth_i, bAnd_r, bOr_r, bNot_r, oAdd_i, oSub_i, oNeg_i, oLt_i, oLe_i, oGt_i, oGe_i, cInt_i, cInt_b, cLen_l, cLen_t, cList_l, cList_t, cMax2_i, cMin2_i, cAbs_i, isT_int_i, isT_bool_i, isT_bool_b, isT_int_b, isT_tuple_t, isT_list_l, oEq_i, oNe_i, oEq_b, oNe_b, oIsN_n, oNotN_n, oIsN_i, oNotN_i, oIsB_b, oNotB_b, sSeqn_r, sNext_r, sBrk_r, sCnt_r, sRetN_r, sExpr_r, sRet_r, sRetOwn_r, sIf_r, sSet_r, sOwn_r, sAsg_r, gV_r, gT_r, gsNil_r, gsCons_r, sFz_r, sAug_r, addI_r, subI_r, sSeq_r, sArgs_r, itemsOf_l, itemsOf_t, sMut_r, fApp_r, Option.bind_some, Option.map_some, List.length_cons, List.length_nil, Nat.zero_add, Nat.reduceAdd, Nat.reduceLT, Nat.reduceLeDiff, List.set_cons_zero, List.set_cons_succ, if_true, Bool.false_eq_true, if_false, Bool.not_true, Bool.not_false, decide_true, decide_false, reduceCtorEq, x1]
    · rw [decide_eq_false c] at x1
      have ha : g.a = g.w := by omega
      have m1 : oMulS (.int f) (.int g.w) = some (.int (f * g.w)) := oMul_l (by omega) (by omega)
      have m2 : oFdiv (.int (f * g.w)) (.int (actS L)) = some (.int (q g)) := by
        show _ = some (PyData.int (f * g.a / actS L))
        rw [ha]
        exact oFdiv_i hT.1 (by omega)
      unfold RR
      generalize ((L.take i).map q ++ 0 :: (L.drop (i + 1)).map fun _ => (0 : Int)).map PyData.int = SS at *
      generalize ((L.take i).map q ++ q g :: (L.drop (i + 1)).map fun _ => (0 : Int)).map PyData.int = SS' at *
      generalize PyData.list (L.map stl) = LS at *
      generalize PyData.list (R.map encQ) = RS at *
      generalize rowD R i = row at *
      generalize q g = qg at *
      rw [sIf_r]
      have hb : bNot (bV (eOp oIx (eB 2) (eB 6))) [.val (.int f), .bor RS, .bor LS, .val (.int (actS L)), .own (.list SS), .val (.int (f - sm)), .val (.int (i : Nat)), .un] = some true := by simp only [eK_r, eV_0, eV_s, eB_0v, eB_0b, eB_0p, eB_0o, eB_s, eP_0v, eP_0b, eP_s, eS_0, eS_s, getS_0, getS_s, aNil_r, aCons_r, eOp_r, eUn_r, eCall_r, eBm_r, eTup_r, eLst_r, eIf_r, eAnd_r, eOr_r, eNot_r, eIs_r, eChain_r, eSl_r, oNo_r, oSo_r, asI_r, bT_r, bV_r, bYes_r, asB_r, truth_b, truth_l, truth_t, truth_n, truth_i, bAnd_r, bOr_r, bNot_r, oAdd_i, oSub_i, oNeg_i, oLt_i, oLe_i, oGt_i, oGe_i, cInt_i, cInt_b, cLen_l, cLen_t, cList_l, cList_t, cMax2_i, cMin2_i, cAbs_i, isT_int_i, isT_bool_i, isT_bool_b, isT_int_b, isT_tuple_t, isT_list_l, oEq_i, oNe_i, oEq_b, oNe_b, oIsN_n, oNotN_n, oIsN_i, oNotN_i, oIsB_b, oNotB_b, sSeqn_r, sNext_r, sBrk_r, sCnt_r, sRetN_r, sExpr_r, sRet_r, sRetOwn_r, sIf_r, sSet_r, sOwn_r, sAsg_r, gV_r, gT_r, gsNil_r, gsCons_r, sFz_r, sAug_r, addI_r, subI_r, sSeq_r, sArgs_r, itemsOf_l, itemsOf_t, sMut_r, fApp_r, Option.bind_some, Option.map_some, List.length_cons, List.length_nil, Nat.zero_add, Nat.reduceAdd, Nat.reduceLT, Nat.reduceLeDiff, List.set_cons_zero, List.set_cons_succ, if_true, Bool.false_eq_true, if_false, Bool.not_true, Bool.not_false, decide_true, decide_false, reduceCtorEq, x1]
      rw [hb, Option.bind_some, if_pos rfl]
      have hv : (eOp oFdiv (eOp oMulS (eB 0) (eOp oIx (eOp oIx (eB 1) (eB 6)) (eK (.int 1)))) (eB 3)) [.val (.int f), .bor RS, .bor LS, .val (.int (actS L)), .own (.list SS), .val (.int (f - sm)), .val (.int (i : Nat)), .un] = some (.int qg) := by
        have h1 : (eOp oIx (eOp oIx (eB 1) (eB 6)) (eK (.int 1))) [.val (.int f), .bor RS, .bor LS, .val (.int (actS L)), .own (.list SS), .val (.int (f - sm)), .val (.int (i : Nat)), .un] = some (.int g.w) := by simp only [eK_r, eV_0, eV_s, eB_0v, eB_0b, eB_0p, eB_0o, eB_s, eP_0v, eP_0b, eP_s, eS_0, eS_s, getS_0, getS_s, aNil_r, aCons_r, eOp_r, eUn_r, eCall_r, eBm_r, eTup_r, eLst_r, eIf_r, eAnd_r, eOr_r, eNot_r, eIs_r, eChain_r, eSl_r, oNo_r, oSo_r, asI_r, bT_r, bV_r, bYes_r, asB_r, truth_b, truth_l, truth_t, truth_n, truth_i, bAnd_r, bOr_r, bNot_r, oAdd_i, oSub_i, oNeg_i, oLt_i, oLe_i, oGt_i, oGe_i, cInt_i, cInt_b, cLen_l, cLen_t, cList_l, cList_t, cMax2_i, cMin2_i, cAbs_i, isT_int_i, isT_bool_i, isT_bool_b, isT_int_b, isT_tuple_t, isT_list_l, oEq_i, oNe_i, oEq_b, oNe_b, oIsN_n, oNotN_n, oIsN_i, oNotN_i, oIsB_b, oNotB_b, sSeqn_r, sNext_r, sBrk_r, sCnt_r, sRetN_r, sExpr_r, sRet_r, sRetOwn_r, sIf_r, sSet_r, sOwn_r, sAsg_r, gV_r, gT_r, gsNil_r, gsCons_r, sFz_r, sAug_r, addI_r, subI_r, sSeq_r, sArgs_r, itemsOf_l, itemsOf_t, sMut_r, fApp_r, Option.bind_some, Option.map_some, List.length_cons, List.length_nil, Nat.zero_add, Nat.reduceAdd, Nat.reduceLT, Nat.reduceLeDiff, List.set_cons_zero, List.set_cons_succ, if_true, Bool.false_eq_true, if_false, Bool.not_true, Bool.not_false, decide_true, decide_false, reduceCtorEq, x2, x3]
        unfold eOp at h1 ⊢
        rw [h1]
        show ((oMulS (.int f) (.int g.w)).bind fun x => oFdiv x (.int (actS L))) = _
        rw [m1]; exact m2
      rw [seq_nx (ρ' := [.val (.int f), .bor RS, .bor LS, .val (.int (actS L)), .own (.list SS'), .val (.int (f - sm)), .val (.int (i : Nat)), .un]) (by
        show (sPut 4 _ _) _ = _
        unfold sPut
        rw [hv]
        simp only [eK_r, eV_0, eV_s, eB_0v, eB_0b, eB_0p, eB_0o, eB_s, eP_0v, eP_0b, eP_s, eS_0, eS_s, getS_0, getS_s, aNil_r, aCons_r, eOp_r, eUn_r, eCall_r, eBm_r, eTup_r, eLst_r, eIf_r, eAnd_r, eOr_r, eNot_r, eIs_r, eChain_r, eSl_r, oNo_r, oSo_r, asI_r, bT_r, bV_r, bYes_r, asB_r, truth_b, truth_l, truth_t, truth_n, truth_i, bAnd_r, bOr_r, bNot_r, oAdd_i, oSub_i, oNeg_i, oLt_i, oLe_i, oGt_i, oGe_i, cInt_i, cInt_b, cLen_l, cLen_t, cList_l, cList_t, cMax2_i, cMin2_i, cAbs_i, isT_int_i, isT_bool_i, isT_bool_b, isT_int_b, isT_tuple_t, isT_list_l, oEq_i, oNe_i, oEq_b, oNe_b, oIsN_n, oNotN_n, oIsN_i, oNotN_i, oIsB_b, oNotB_b, sSeqn_r, sNext_r, sBrk_r, sCnt_r, sRetN_r, sExpr_r, sRet_r, sRetOwn_r, sIf_r, sSet_r, sOwn_r, sAsg_r, gV_r, gT_r, gsNil_r, gsCons_r, sFz_r, sAug_r, addI_r, subI_r, sSeq_r, sArgs_r, itemsOf_l, itemsOf_t, sMut_r, fApp_r, Option.bind_some, Option.map_some, List.length_cons, List.length_nil, Nat.zero_add, Nat.reduceAdd, Nat.reduceLT, Nat.reduceLeDiff, List.set_cons_zero, List.set_cons_succ, if_true, Bool.false_eq_true, if_false, Bool.not_true, Bool.not_false, decide_true, decide_false, reduceCtorEq, List.getElem?_cons_succ, List.getElem?_cons_zero, p1])]
      simp only [eK_r, eV_0, eV_s, eB_0v, eB_0b, eB_0p, eB_0o, eB_s, eP_0v, eP_0b, eP_s, eS_0, eS_s, getS_0, getS_s, aNil_r, aCons_r, eOp_r, eUn_r, eCall_r, eBm_r, eTup_r, eLst_r, eIf_r, eAnd_r, eOr_r, eNot_r, eIs_r, eChain_r, eSl_r, oNo_r, oSo_r, asI_r, bT_r, bV_r, bYes_r, asB_r, truth_b, truth_l, truth_t, truth_n, truth_i, bAnd_r, bOr_r, bNot_r, oAdd_i, oSub_i, oNeg_i, oLt_i, oLe_i, oGt_i, oGe_i, cInt_i, cInt_b, cLen_l, cLen_t, cList_l, cList_t, cMax2_i, cMin2_i, cAbs_i, isT_int_i, isT_bool_i, isT_bool_b, isT_int_b, isT_tuple_t, isT_list_l, oEq_i, oNe_i, oEq_b, oNe_b, oIsN_n, oNotN_n, oIsN_i, oNotN_i, oIsB_b, oNotB_b, sSeqn_r, sNext_r, sBrk_r, sCnt_r, sRetN_r, sExpr_r, sRet_r, sRetOwn_r, sIf_r, sSet_r, sOwn_r, sAsg_r, gV_r, gT_r, gsNil_r, gsCons_r, sFz_r, sAug_r, addI_r, subI_r, sSeq_r, sArgs_r, itemsOf_l, itemsOf_t, sMut_r, fApp_r, Option.bind_some, Option.map_some, List.length_cons, List.length_nil, Nat.zero_add, Nat.reduceAdd, Nat.reduceLT, Nat.reduceLeDiff, List.set_cons_zero, List.set_cons_succ, if_true, Bool.false_eq_true, if_false, Bool.not_true, Bool.not_false, decide_true, decide_false, reduceCtorEq, p2])
  rw [List.take_length, List.drop_length, List.map_nil, List.append_nil] at e1
  -- what is left over
  have hT0 : ¬ (L.map fun g : Gi => g.a).sum = 0 := by
    show ¬ actS L = 0
    omega
  have hpr : prs f (L.map fun g : Gi => g.a) = L.map fun g => (g.a, q g) := by unfold prs; rw [List.map_map]; rfl
  have hrs : restV f (L.map fun g : Gi => g.a) = f - (L.map q).sum := by unfold restV; rw [List.map_map]; rfl
  have hdv : dealtV f (L.map fun g : Gi => g.a) = give (L.map fun g => (g.a, q g)) (f - (L.map q).sum) := by
    unfold dealtV
    rw [if_neg hT0, hpr, hrs]
  have hLq : (L.map fun g => (g.a, q g)).map (·.2) = L.map q := by rw [List.map_map]; rfl
  obtain ⟨ρ2, e2, P, r, t6, rfl, hP, hgv⟩ := for_rng (g := gV 6) (b := L__law_round_2) (ρ := RR f R L (actS L) (L.map q) (f - (L.map q).sum) s6 .un) 0 L.length (fun i ρ => ∃ (P : List Int) (r : Int) (t6 : Slot), ρ = RR f R L (actS L) (P ++ (L.drop i).map q) r t6 .un ∧ P.length = i ∧ P ++ give ((L.drop i).map fun g => (g.a, q g)) r = give (L.map fun g => (g.a, q g)) (f - (L.map q).sum)) ⟨[], _, s6, by rw [List.drop_zero, List.nil_append], rfl, by rw [List.drop_zero, List.nil_append]⟩ (by
    rintro i ρ hi ⟨P, r, t6, rfl, hP, hgv⟩
    rw [Int.zero_add]
    obtain ⟨g, hg⟩ : ∃ g, L[i]? = some g := ⟨_, List.getElem?_eq_getElem hi⟩
    obtain ⟨t1, t2, t3⟩ := take_s L i g hg
    have x1 := stl_at L i g hg
    obtain ⟨k1, k2, k3⟩ := ok g (List.mem_of_getElem? hg)
    rw [t2, List.map_cons, give] at hgv
    rw [t2, List.map_cons]
    have p0 := at_mid P ((L.drop (i + 1)).map q) (q g) i hP
    have p1 := put_mid P ((L.drop (i + 1)).map q) (q g) (q g + 1) i hP
    refine ⟨RR f R L (actS L) (P ++ q g :: (L.drop (i + 1)).map q) r (.val (.int (i : Nat))) .un, RR f R L (actS L) ((P ++ [if 0 < g.a ∧ 0 < r then q g + 1 else q g]) ++ (L.drop (i + 1)).map q) (if 0 < g.a ∧ 0 < r then r - 1 else r) (.val (.int (i : Nat))) .un, rfl, ?_, _, _, _, rfl, by rw [List.length_append, hP]; rfl, ?_⟩
    · unfold L__law_round_2
      by_cases c1 : 0 < r
      · by_cases c2 : g.a = 0
        · rw [decide_eq_true c2] at x1
          rw [if_neg (by omega), if_neg (by omega), List.append_assoc]
          unfold RR
          show _ = some (Out.nx [_, _, _, _, .own (.list ((P ++ q g :: (L.drop (i + 1)).map q).map .int)), _, _, _])
          generalize (P ++ q g :: (L.drop (i + 1)).map q).map PyData.int = SS at *
          generalize PyData.list (L.map stl) = LS at *
          simp only [eK_r, eV_0, eV_s, eB_0v, eB_0b, eB_0p, eB_0o, eB_s, eP_0v, eP_0b, eP_s, eS_0, eS_s, getS_0, getS_s, aNil_r, aCons_r, eOp_r, eUn_r, eCall_r, eBm_r, eTup_r, eLst_r, eIf_r, eAnd_r, eOr_r, eNot_r, eIs_r, eChain_r, eSl_r, oNo_r, oSo_r, asI_r, bT_r, bV_r, bYes_r, asB_r, truth_b, truth_l, truth_t, truth_n, truth_i, bAnd_r, bOr_r, bNot_r, oAdd_i, oSub_i, oNeg_i, oLt_i, oLe_i, oGt_i, oGe_i, cInt_i, cInt_b, cLen_l, cLen_t, cList_l, cList_t, cMax2_i, cMin2_i, cAbs_i, isT_int_i, isT_bool_i, isT_bool_b, isT_int_b, isT_tuple_t, isT_list_l, oEq_i, oNe_i, oEq_b, oNe_b, oIsN_n, oNotN_n, oIsN_i, oNotN_i, oIsB_b, oNotB_b, sSeqn_r, sNext_r, sBrk_r, sCnt_r, sRetN_r, sExpr_r, sRet_r, sRetOwn_r, sIf_r, sSet_r, sOwn_r, sAsg_r, gV_r, gT_r, gsNil_r, gsCons_r, sFz_r, sAug_r, addI_r, subI_r, sSeq_r, sArgs_r, itemsOf_l, itemsOf_t, sMut_r, fApp_r, Option.bind_some, Option.map_some, List.length_cons, List.length_nil, Nat.zero_add, Nat.reduceAdd, Nat.reduceLT, Nat.reduceLeDiff, List.set_cons_zero, List.set_cons_succ, if_true, Bool.false_eq_true, if_false, Bool.not_true, Bool.not_false, decide_true, decide_false, reduceCtorEq, c1, x1]
        · rw [decide_eq_false c2] at x1
          rw [if_pos (by omega), if_pos (by omega), List.append_assoc]
          unfold RR
          show _ = some (Out.nx [_, _, _, _, .own (.list ((P ++ (q g + 1) :: (L.drop (i + 1)).map q).map .int)), _, _, _])
          generalize (P ++ q g :: (L.drop (i + 1)).map q).map PyData.int = SS at *
          generalize (P ++ (q g + 1) :: (L.drop (i + 1)).map q).map PyData.int = SS' at *
          generalize PyData.list (L.map stl) = LS at *
          generalize PyData.list (R.map encQ) = RS at *
          generalize q g = qg at *
          rw [sIf_r]
          have hb : bAnd (bT (eOp oGt (eB 5) (eK (.int 0)))) (bNot (bV (eOp oIx (eB 2) (eB 6)))) [.val (.int f), .bor RS, .bor LS, .val (.int (actS L)), .own (.list SS), .val (.int r), .val (.int (i : Nat)), .un] = some true := by simp only [eK_r, eV_0, eV_s, eB_0v, eB_0b, eB_0p, eB_0o, eB_s, eP_0v, eP_0b, eP_s, eS_0, eS_s, getS_0, getS_s, aNil_r, aCons_r, eOp_r, eUn_r, eCall_r, eBm_r, eTup_r, eLst_r, eIf_r, eAnd_r, eOr_r, eNot_r, eIs_r, eChain_r, eSl_r, oNo_r, oSo_r, asI_r, bT_r, bV_r, bYes_r, asB_r, truth_b, truth_l, truth_t, truth_n, truth_i, bAnd_r, bOr_r, bNot_r, oAdd_i, oSub_i, oNeg_i, oLt_i, oLe_i, oGt_i, oGe_i, cInt_i, cInt_b, cLen_l, cLen_t, cList_l, cList_t, cMax2_i, cMin2_i, cAbs_i, isT_int_i, isT_bool_i, isT_bool_b, isT_int_b, isT_tuple_t, isT_list_l, oEq_i, oNe_i, oEq_b, oNe_b, oIsN_n, oNotN_n, oIsN_i, oNotN_i, oIsB_b, oNotB_b, sSeqn_r, sNext_r, sBrk_r, sCnt_r, sRetN_r, sExpr_r, sRet_r, sRetOwn_r, sIf_r, sSet_r, sOwn_r, sAsg_r, gV_r, gT_r, gsNil_r, gsCons_r, sFz_r, sAug_r, addI_r, subI_r, sSeq_r, sArgs_r, itemsOf_l, itemsOf_t, sMut_r, fApp_r, Option.bind_some, Option.map_some, List.length_cons, List.length_nil, Nat.zero_add, Nat.reduceAdd, Nat.reduceLT, Nat.reduceLeDiff, List.set_cons_zero, List.set_cons_succ, if_true, Bool.false_eq_true, if_false, Bool.not_true, Bool.not_false, decide_true, decide_false, reduceCtorEq, c1, x1]
          rw [hb, Option.bind_some, if_pos rfl]
          rw [seq_nx (ρ' := [.val (.int f), .bor RS, .bor LS, .val (.int (actS L)), .own (.list SS'), .val (.int r), .val (.int (i : Nat)), .un]) (by
            show (sPut 4 _ _) _ = _
            unfold sPut
            simp only [eK_r, eV_0, eV_s, eB_0v, eB_0b, eB_0p, eB_0o, eB_s, eP_0v, eP_0b, eP_s, eS_0, eS_s, getS_0, getS_s, aNil_r, aCons_r, eOp_r, eUn_r, eCall_r, eBm_r, eTup_r, eLst_r, eIf_r, eAnd_r, eOr_r, eNot_r, eIs_r, eChain_r, eSl_r, oNo_r, oSo_r, asI_r, bT_r, bV_r, bYes_r, asB_r, truth_b, truth_l, truth_t, truth_n, truth_i, bAnd_r, bOr_r, bNot_r, oAdd_i, oSub_i, oNeg_i, oLt_i, oLe_i, oGt_i, oGe_i, cInt_i, cInt_b, cLen_l, cLen_t, cList_l, cList_t, cMax2_i, cMin2_i, cAbs_i, isT_int_i, isT_bool_i, isT_bool_b, isT_int_b, isT_tuple_t, isT_list_l, oEq_i, oNe_i, oEq_b, oNe_b, oIsN_n, oNotN_n, oIsN_i, oNotN_i, oIsB_b, oNotB_b, sSeqn_r, sNext_r, sBrk_r, sCnt_r, sRetN_r, sExpr_r, sRet_r, sRetOwn_r, sIf_r, sSet_r, sOwn_r, sAsg_r, gV_r, gT_r, gsNil_r, gsCons_r, sFz_r, sAug_r, addI_r, subI_r, sSeq_r, sArgs_r, itemsOf_l, itemsOf_t, sMut_r, fApp_r, Option.bind_some, Option.map_some, List.length_cons, List.length_nil, Nat.zero_add, Nat.reduceAdd, Nat.reduceLT, Nat.reduceLeDiff, List.set_cons_zero, List.set_cons_succ, if_true, Bool.false_eq_true, if_false, Bool.not_true, Bool.not_false, decide_true, decide_false, reduceCtorEq, List.getElem?_cons_succ, List.getElem?_cons_zero, p0, p1])]
          simp only [eK_r, eV_0, eV_s, eB_0v, eB_0b, eB_0p, eB_0o, eB_s, eP_0v, eP_0b, eP_s, eS_0, eS_s, getS_0, getS_s, aNil_r, aCons_r, eOp_r, eUn_r, eCall_r, eBm_r, eTup_r, eLst_r, eIf_r, eAnd_r, eOr_r, eNot_r, eIs_r, eChain_r, eSl_r, oNo_r, oSo_r, asI_r, bT_r, bV_r, bYes_r, asB_r, truth_b, truth_l, truth_t, truth_n, truth_i, bAnd_r, bOr_r, bNot_r, oAdd_i, oSub_i, oNeg_i, oLt_i, oLe_i, oGt_i, oGe_i, cInt_i, cInt_b, cLen_l, cLen_t, cList_l, cList_t, cMax2_i, cMin2_i, cAbs_i, isT_int_i, isT_bool_i, isT_bool_b, isT_int_b, isT_tuple_t, isT_list_l, oEq_i, oNe_i, oEq_b, oNe_b, oIsN_n, oNotN_n, oIsN_i, oNotN_i, oIsB_b, oNotB_b, sSeqn_r, sNext_r, sBrk_r, sCnt_r, sRetN_r, sExpr_r, sRet_r, sRetOwn_r, sIf_r, sSet_r, sOwn_r, sAsg_r, gV_r, gT_r, gsNil_r, gsCons_r, sFz_r, sAug_r, addI_r, subI_r, sSeq_r, sArgs_r, itemsOf_l, itemsOf_t, sMut_r, fApp_r, Option.bind_some, Option.map_some, List.length_cons, List.length_nil, Nat.zero_add, Nat.reduceAdd, Nat.reduceLT, Nat.reduceLeDiff, List.set_cons_zero, List.set_cons_succ, if_true, Bool.false_eq_true, if_false, Bool.not_true, Bool.not_false, decide_true, decide_false, reduceCtorEq]
      · rw [if_neg (by omega), if_neg (by omega), List.append_assoc]
        unfold RR
        show _ = some (Out.nx [_, _, _, _, .own (.list ((P ++ q g :: (L.drop (i + 1)).map q).map .int)), _, _, _])
        generalize (P ++ q g :: (L.drop (i + 1)).map q).map PyData.int = SS at *
        simp only [eK_r, eV_0, eV_s, eB_0v, eB_0b, eB_0p, eB_0o, eB_s, eP_0v, eP_0b, eP_s, eS_0, eS_s, getS_0, getS_s, aNil_r, aCons_r, eOp_r, eUn_r, eCall_r, eBm_r, eTup_r, eLst_r, eIf_r, eAnd_r, eOr_r, eNot_r, eIs_r, eChain_r, eSl_r, oNo_r, oSo_r, asI_r, bT_r, bV_r, bYes_r, asB_r, truth_b, truth_l, truth_t, truth_n, truth_i, bAnd_r, bOr_r, bNot_r, oAdd_i, oSub_i, oNeg_i, oLt_i, oLe_i, oGt_i, oGe_i, cInt_i, cInt_b, cLen_l, cLen_t, cList_l, cList_t, cMax2_i, cMin2_i, cAbs_i, isT_int_i, isT_bool_i, isT_bool_b, isT_int_b, isT_tuple_t, isT_list_l, oEq_i, oNe_i, oEq_b, oNe_b, oIsN_n, oNotN_n, oIsN_i, oNotN_i, oIsB_b, oNotB_b, sSeqn_r, sNext_r, sBrk_r, sCnt_r, sRetN_r, sExpr_r, sRet_r, sRetOwn_r, sIf_r, sSet_r, sOwn_r, sAsg_r, gV_r, gT_r, gsNil_r, gsCons_r, sFz_r, sAug_r, addI_r, subI_r, sSeq_r, sArgs_r, itemsOf_l, itemsOf_t, sMut_r, fApp_r, Option.bind_some, Option.map_some, List.length_cons, List.length_nil, Nat.zero_add, Nat.reduceAdd, Nat.reduceLT, Nat.reduceLeDiff, List.set_cons_zero, List.set_cons_succ, if_true, Bool.false_eq_true, if_false, Bool.not_true, Bool.not_false, decide_true, decide_false, reduceCtorEq, c1]
    · rw [← hgv, List.append_assoc]
      congr 1
      by_cases c : 0 < g.a ∧ 0 < r
      · rw [if_pos c, if_pos c, if_pos c]; rfl
      · rw [if_neg c, if_neg c, if_neg c]; rfl)
  rw [List.drop_length, List.map_nil, give, List.append_nil] at hgv
  rw [List.drop_length, List.map_nil, List.append_nil, hgv, ← hdv] at e2
  refine box_rt rfl ?_
  show B__law_round [.val (.int f), .bor (.list (R.map encQ)), .bor (.list (L.map stl)), .un, .un, .un, .un, .un] = _
  have hz : lcGo (gV 7) bYes (eK (.int 0)) [.val (.int f), .bor (.list (R.map encQ)), .bor (.list (L.map stl)), .val (.int (actS L)), .un, .un, .un, .un] (R.map encQ) = some ((L.map fun _ => (0 : Int)).map .int) := by
    have := lcGo_map (ρ := [.val (.int f), .bor (.list (R.map encQ)), .bor (.list (L.map stl)), .val (.int (actS L)), .un, .un, .un, .un]) (g := gV 7) (t := bYes) (e := eK (.int 0)) encQ (fun _ => .int 0) R fun a _ => ⟨_, rfl, rfl, rfl⟩
    rw [this, List.map_map]
    have e1 : R.map (fun _ : Q4 => PyData.int 0) = List.replicate R.length (PyData.int 0) := List.map_const' ..
    have e2 : L.map (PyData.int ∘ fun _ : Gi => (0 : Int)) = List.replicate L.length (PyData.int 0) := List.map_const' ..
    rw [e1, e2, rows_len hc]
  unfold B__law_round
  rw [seq_nx (sSet_eq hsum (by simp))]
  show sSeqn _ _ [.val (.int f), .bor (.list (R.map encQ)), .bor (.list (L.map stl)), .val (.int (actS L)), .un, .un, .un, .un] = _
  rw [seq_nx (sOwn_eq (eLc_eq (ds := R.map encQ) (by simp only [eK_r, eV_0, eV_s, eB_0v, eB_0b, eB_0p, eB_0o, eB_s, eP_0v, eP_0b, eP_s, eS_0, eS_s, getS_0, getS_s, aNil_r, aCons_r, eOp_r, eUn_r, eCall_r, eBm_r, eTup_r, eLst_r, eIf_r, eAnd_r, eOr_r, eNot_r, eIs_r, eChain_r, eSl_r, oNo_r, oSo_r, asI_r, bT_r, bV_r, bYes_r, asB_r, truth_b, truth_l, truth_t, truth_n, truth_i, bAnd_r, bOr_r, bNot_r, oAdd_i, oSub_i, oNeg_i, oLt_i, oLe_i, oGt_i, oGe_i, cInt_i, cInt_b, cLen_l, cLen_t, cList_l, cList_t, cMax2_i, cMin2_i, cAbs_i, isT_int_i, isT_bool_i, isT_bool_b, isT_int_b, isT_tuple_t, isT_list_l, oEq_i, oNe_i, oEq_b, oNe_b, oIsN_n, oNotN_n, oIsN_i, oNotN_i, oIsB_b, oNotB_b, sSeqn_r, sNext_r, sBrk_r, sCnt_r, sRetN_r, sExpr_r, sRet_r, sRetOwn_r, sIf_r, sSet_r, sOwn_r, sAsg_r, gV_r, gT_r, gsNil_r, gsCons_r, sFz_r, sAug_r, addI_r, subI_r, sSeq_r, sArgs_r, itemsOf_l, itemsOf_t, sMut_r, fApp_r, Option.bind_some, Option.map_some, List.length_cons, List.length_nil, Nat.zero_add, Nat.reduceAdd, Nat.reduceLT, Nat.reduceLeDiff, List.set_cons_zero, List.set_cons_succ, if_true, Bool.false_eq_true, if_false, Bool.not_true, Bool.not_false, decide_true, decide_false, reduceCtorEq]) hz (by rw [List.length_map, List.length_map]; omega)) (by simp))]
  rw [seq_nx (ρ' := RR f R L (actS L) (L.map fun _ => 0) f .un .un) (by
    show sSet 5 (eV 0) [.val (.int f), .bor (.list (R.map encQ)), .bor (.list (L.map stl)), .val (.int (actS L)), .own (.list ((L.map fun _ => (0 : Int)).map .int)), .un, .un, .un] = _
    simp only [eK_r, eV_0, eV_s, eB_0v, eB_0b, eB_0p, eB_0o, eB_s, eP_0v, eP_0b, eP_s, eS_0, eS_s, getS_0, getS_s, aNil_r, aCons_r, eOp_r, eUn_r, eCall_r, eBm_r, eTup_r, eLst_r, eIf_r, eAnd_r, eOr_r, eNot_r, eIs_r, eChain_r, eSl_r, oNo_r, oSo_r, asI_r, bT_r, bV_r, bYes_r, asB_r, truth_b, truth_l, truth_t, truth_n, truth_i, bAnd_r, bOr_r, bNot_r, oAdd_i, oSub_i, oNeg_i, oLt_i, oLe_i, oGt_i, oGe_i, cInt_i, cInt_b, cLen_l, cLen_t, cList_l, cList_t, cMax2_i, cMin2_i, cAbs_i, isT_int_i, isT_bool_i, isT_bool_b, isT_int_b, isT_tuple_t, isT_list_l, oEq_i, oNe_i, oEq_b, oNe_b, oIsN_n, oNotN_n, oIsN_i, oNotN_i, oIsB_b, oNotB_b, sSeqn_r, sNext_r, sBrk_r, sCnt_r, sRetN_r, sExpr_r, sRet_r, sRetOwn_r, sIf_r, sSet_r, sOwn_r, sAsg_r, gV_r, gT_r, gsNil_r, gsCons_r, sFz_r, sAug_r, addI_r, subI_r, sSeq_r, sArgs_r, itemsOf_l, itemsOf_t, sMut_r, fApp_r, Option.bind_some, Option.map_some, List.length_cons, List.length_nil, Nat.zero_add, Nat.reduceAdd, Nat.reduceLT, Nat.reduceLeDiff, List.set_cons_zero, List.set_cons_succ, if_true, Bool.false_eq_true, if_false, Bool.not_true, Bool.not_false, decide_true, decide_false, reduceCtorEq])]
  have hr := rng1_n L.length (by omega)
  rw [seq_nx ((sFor_eq (sArgs_eq (ds := [.int (L.length : Nat)]) (by simp only [eK_r, eV_0, eV_s, eB_0v, eB_0b, eB_0p, eB_0o, eB_s, eP_0v, eP_0b, eP_s, eS_0, eS_s, getS_0, getS_s, aNil_r, aCons_r, eOp_r, eUn_r, eCall_r, eBm_r, eTup_r, eLst_r, eIf_r, eAnd_r, eOr_r, eNot_r, eIs_r, eChain_r, eSl_r, oNo_r, oSo_r, asI_r, bT_r, bV_r, bYes_r, asB_r, truth_b, truth_l, truth_t, truth_n, truth_i, bAnd_r, bOr_r, bNot_r, oAdd_i, oSub_i, oNeg_i, oLt_i, oLe_i, oGt_i, oGe_i, cInt_i, cInt_b, cLen_l, cLen_t, cList_l, cList_t, cMax2_i, cMin2_i, cAbs_i, isT_int_i, isT_bool_i, isT_bool_b, isT_int_b, isT_tuple_t, isT_list_l, oEq_i, oNe_i, oEq_b, oNe_b, oIsN_n, oNotN_n, oIsN_i, oNotN_i, oIsB_b, oNotB_b, sSeqn_r, sNext_r, sBrk_r, sCnt_r, sRetN_r, sExpr_r, sRet_r, sRetOwn_r, sIf_r, sSet_r, sOwn_r, sAsg_r, gV_r, gT_r, gsNil_r, gsCons_r, sFz_r, sAug_r, addI_r, subI_r, sSeq_r, sArgs_r, itemsOf_l, itemsOf_t, sMut_r, fApp_r, Option.bind_some, Option.map_some, List.length_cons, List.length_nil, Nat.zero_add, Nat.reduceAdd, Nat.reduceLT, Nat.reduceLeDiff, List.set_cons_zero, List.set_cons_succ, if_true, Bool.false_eq_true, if_false, Bool.not_true, Bool.not_false, decide_true, decide_false, reduceCtorEq, hRl]) hr)).trans e1)]
  rw [seq_nx ((sFor_eq (sArgs_eq (ds := [.int (L.length : Nat)]) (by simp only [eK_r, eV_0, eV_s, eB_0v, eB_0b, eB_0p, eB_0o, eB_s, eP_0v, eP_0b, eP_s, eS_0, eS_s, getS_0, getS_s, aNil_r, aCons_r, eOp_r, eUn_r, eCall_r, eBm_r, eTup_r, eLst_r, eIf_r, eAnd_r, eOr_r, eNot_r, eIs_r, eChain_r, eSl_r, oNo_r, oSo_r, asI_r, bT_r, bV_r, bYes_r, asB_r, truth_b, truth_l, truth_t, truth_n, truth_i, bAnd_r, bOr_r, bNot_r, oAdd_i, oSub_i, oNeg_i, oLt_i, oLe_i, oGt_i, oGe_i, cInt_i, cInt_b, cLen_l, cLen_t, cList_l, cList_t, cMax2_i, cMin2_i, cAbs_i, isT_int_i, isT_bool_i, isT_bool_b, isT_int_b, isT_tuple_t, isT_list_l, oEq_i, oNe_i, oEq_b, oNe_b, oIsN_n, oNotN_n, oIsN_i, oNotN_i, oIsB_b, oNotB_b, sSeqn_r, sNext_r, sBrk_r, sCnt_r, sRetN_r, sExpr_r, sRet_r, sRetOwn_r, sIf_r, sSet_r, sOwn_r, sAsg_r, gV_r, gT_r, gsNil_r, gsCons_r, sFz_r, sAug_r, addI_r, subI_r, sSeq_r, sArgs_r, itemsOf_l, itemsOf_t, sMut_r, fApp_r, Option.bind_some, Option.map_some, List.length_cons, List.length_nil, Nat.zero_add, Nat.reduceAdd, Nat.reduceLT, Nat.reduceLeDiff, List.set_cons_zero, List.set_cons_succ, if_true, Bool.false_eq_true, if_false, Bool.not_true, Bool.not_false, decide_true, decide_false, reduceCtorEq, hRl]) hr)).trans e2)]
  simp only [eK_r, eV_0, eV_s, eB_0v, eB_0b, eB_0p, eB_0o, eB_s, eP_0v, eP_0b, eP_s, eS_0, eS_s, getS_0, getS_s, aNil_r, aCons_r, eOp_r, eUn_r, eCall_r, eBm_r, eTup_r, eLst_r, eIf_r, eAnd_r, eOr_r, eNot_r, eIs_r, eChain_r, eSl_r, oNo_r, oSo_r, asI_r, bT_r, bV_r, bYes_r, asB_r, truth_b, truth_l, truth_t, truth_n, truth_i, bAnd_r, bOr_r, bNot_r, oAdd_i, oSub_i, oNeg_i, oLt_i, oLe_i, oGt_i, oGe_i, cInt_i, cInt_b, cLen_l, cLen_t, cList_l, cList_t, cMax2_i, cMin2_i, cAbs_i, isT_int_i, isT_bool_i, isT_bool_b, isT_int_b, isT_tuple_t, isT_list_l, oEq_i, oNe_i, oEq_b, oNe_b, oIsN_n, oNotN_n, oIsN_i, oNotN_i, oIsB_b, oNotB_b, sSeqn_r, sNext_r, sBrk_r, sCnt_r, sRetN_r, sExpr_r, sRet_r, sRetOwn_r, sIf_r, sSet_r, sOwn_r, sAsg_r, gV_r, gT_r, gsNil_r, gsCons_r, sFz_r, sAug_r, addI_r, subI_r, sSeq_r, sArgs_r, itemsOf_l, itemsOf_t, sMut_r, fApp_r, Option.bind_some, Option.map_some, List.length_cons, List.length_nil, Nat.zero_add, Nat.reduceAdd, Nat.reduceLT, Nat.reduceLeDiff, List.set_cons_zero, List.set_cons_succ, if_true, Bool.false_eq_true, if_false, Bool.not_true, Bool.not_false, decide_true, decide_false, reduceCtorEq]
theorem lay_stl : ∀ L : List Gi, PyData.canLayAll0 (L.map stl) = true ∧ PyData.depthAll (L.map stl) ≤ 1
  | [] => ⟨by simp [PyData.canLayAll0], by simp [PyData.depthAll]⟩
  | g :: L => by
    obtain ⟨h1, h2⟩ := lay_stl L
    rw [List.map_cons]
    refine ⟨by simp [PyData.canLayAll0, h1, stl, PyData.canLay0], ?_⟩
    simp only [PyData.depthAll, stl, PyData.depth]
    omega
theorem shaped_stl (L : List Gi) : SeqAt.shaped (.list (L.map stl)) = true := by
  obtain ⟨h1, h2⟩ := lay_stl L
  have hc : (PyData.list (L.map stl)).canLay0 = true := by simpa [PyData.canLay0] using h1
  have hd : (PyData.list (L.map stl)).depth ≤ 2 := by
    simp only [PyData.depth]
    generalize PyData.depthAll (L.map stl) = d at *
    first | omega | (simp; omega)
  unfold SeqAt.shaped
  rw [hc, Bool.true_and]
  exact decide_eq_true (by omega)
theorem any_stl (L : List Gi) : ((L.map stl).any fun z => PyData.eqv z (.bool false)) = L.any fun g => decide (g.a ≠ 0) := by
  rw [List.any_map]
  congr 1
  funext g
  show PyData.eqv (.bool (decide (g.a = 0))) (.bool false) = _
  by_cases h : g.a = 0
  · rw [decide_eq_true h, decide_eq_false (by simpa using h)]; simp [PyData.eqv]
  · rw [decide_eq_false h, decide_eq_true (by simpa using h)]; simp [PyData.eqv]
theorem notin_stl (L : List Gi) (ok : ∀ g ∈ L, GiOk g) : oNotIn (.bool false) (.list (L.map stl)) = some (.bool (decide (actS L = 0))) := by
  have h : (L.any fun g => decide (g.a ≠ 0)) = !decide (actS L = 0) := by
    by_cases z : actS L = 0
    · rw [decide_eq_true z]
      have := sum_zero (fun g : Gi => g.a) L (act_nn ok) z
      rw [List.any_eq_false.mpr]; rfl
      intro g hg
      simp [this g hg]
    · rw [decide_eq_false z]
      cases hc : L.any fun g => decide (g.a ≠ 0) with
      | true => rfl
      | false =>
        exfalso
        apply z
        have h1 := List.any_eq_false.mp hc
        have h2 : ∀ g ∈ L, g.a = 0 := fun g hg => by
          have := h1 g hg
          simpa using this
        have h3 : (L.map fun g : Gi => g.a) = L.map fun _ => 0 := List.map_congr_left h2
        unfold actS
        rw [h3]
        have z : ∀ l : List Gi, (l.map fun _ => (0 : Int)).sum = 0 := fun l => by
          induction l with
          | nil => rfl
          | cons a l ih => simp [ih]
        exact z L
  unfold oNotIn
  simp only []
  rw [if_pos ⟨rfl, shaped_stl L⟩, any_stl, h, Bool.not_not]
abbrev RD (f : Int) (R : List Q4) (L : List Gi) (s4 s5 s6 s7 s8 s9 s10 : Slot) : Rho := [.val (.int f), .bor (.list (R.map encQ)), .own (.list (L.map stl)), .own (.list ((L.map xI).map .int)), s4, s5, s6, s7, s8, s9, s10]
theorem putB_mid (P R : List Gi) (g g' : Gi) (n : Nat) (h : P.length = n) : fSet ((P ++ g :: R).map stl) [.int (n : Nat), stl g'] = some (.list ((P ++ g' :: R).map stl)) := by
  have : ixN ((P ++ g :: R).map stl).length (n : Nat) = some n := by
    unfold ixN
    rw [if_pos (by omega), if_pos (by simp; omega), Int.toNat_natCast]
  unfold fSet
  simp only []
  rw [this]
  simp only [Option.map_some]
  congr 2
  rw [List.map_append, List.map_cons, List.set_append_right _ _ (by rw [List.length_map]; omega), List.length_map, h, Nat.sub_self, List.set_cons_zero, List.map_append, List.map_cons]
theorem due1 (f : Int) (R : List Q4) (P : List Gi) (z : Gi × Int) (Z : List (Gi × Int)) (hc : (P ++ z.1 :: Z.map (·.1)).map core = R.map coreQ) (ho : ovr z = true) (s4 s5 s6 s8 s9 s10 : Slot) :
    L__law_due_1 (RD f R (P ++ z.1 :: Z.map (·.1)) s4 s5 s6 (.val (.int (P.length : Nat))) s8 s9 s10) = some (.nx (RD (f - dec z) R (P ++ stp z :: Z.map (·.1)) s4 s5 s6 (.val (.int (P.length : Nat))) s8 s9 s10)) := by
  have hat : (P ++ z.1 :: Z.map (·.1))[P.length]? = some z.1 := by
    rw [List.getElem?_append_right (Nat.le_refl _), Nat.sub_self]; rfl
  have x1 := row_at R _ hc P.length z.1 hat
  obtain ⟨x3, _, x2⟩ := encA R _ hc P.length z.1 hat
  have p1 := put_mid (P.map xI) ((Z.map (·.1)).map xI) (xI z.1) (lI z.1) P.length (List.length_map ..)
  have p2 := putB_mid P (Z.map (·.1)) z.1 (stp z) P.length rfl
  have hs : stp z = { z.1 with a := 0, x := z.1.l } := by unfold stp; rw [if_pos ho]
  have hst : stl (stp z) = .bool true := by rw [hs]; rfl
  rw [hst] at p2
  have hd : dec z = bI z.1 - lI z.1 := by unfold dec bI lI; rw [if_pos ho]; omega
  have e1 : (P ++ z.1 :: Z.map (·.1)).map xI = P.map xI ++ xI z.1 :: (Z.map (·.1)).map xI := by rw [List.map_append, List.map_cons]
  have e3 : (P ++ stp z :: Z.map (·.1)).map xI = P.map xI ++ lI z.1 :: (Z.map (·.1)).map xI := by rw [List.map_append, List.map_cons, hs]; rfl
  unfold RD
  rw [e1, e3, hd]
  generalize (P.map xI ++ xI z.1 :: (Z.map (·.1)).map xI).map PyData.int = X at *
  generalize (P.map xI ++ lI z.1 :: (Z.map (·.1)).map xI).map PyData.int = X' at *
  generalize (P ++ z.1 :: Z.map (·.1)).map stl = A at *
  generalize (P ++ stp z :: Z.map (·.1)).map stl = A' at *
  generalize PyData.list (R.map encQ) = RS at *
  generalize rowD R P.length = row at *
  generalize lI z.1 = l at *
  generalize bI z.1 = b at *
  unfold L__law_due_1
  rw [seq_nx (ρ' := [.val (.int f), .bor RS, .own (.list A'), .own (.list X), s4, s5, s6, .val (.int (P.length : Nat)), s8, s9, s10]) (by
    show (sPut 2 _ _) _ = _
    unfold sPut
    simp only [eK_r, eV_0, eV_s, eB_0v, eB_0b, eB_0p, eB_0o, eB_s, eP_0v, eP_0b, eP_s, eS_0, eS_s, getS_0, getS_s, aNil_r, aCons_r, eOp_r, eUn_r, eCall_r, eBm_r, eTup_r, eLst_r, eIf_r, eAnd_r, eOr_r, eNot_r, eIs_r, eChain_r, eSl_r, oNo_r, oSo_r, asI_r, bT_r, bV_r, bYes_r, asB_r, truth_b, truth_l, truth_t, truth_n, truth_i, bAnd_r, bOr_r, bNot_r, oAdd_i, oSub_i, oNeg_i, oLt_i, oLe_i, oGt_i, oGe_i, cInt_i, cInt_b, cLen_l, cLen_t, cList_l, cList_t, cMax2_i, cMin2_i, cAbs_i, isT_int_i, isT_bool_i, isT_bool_b, isT_int_b, isT_tuple_t, isT_list_l, oEq_i, oNe_i, oEq_b, oNe_b, oIsN_n, oNotN_n, oIsN_i, oNotN_i, oIsB_b, oNotB_b, sSeqn_r, sNext_r, sBrk_r, sCnt_r, sRetN_r, sExpr_r, sRet_r, sRetOwn_r, sIf_r, sSet_r, sOwn_r, sAsg_r, gV_r, gT_r, gsNil_r, gsCons_r, sFz_r, sAug_r, addI_r, subI_r, sSeq_r, sArgs_r, itemsOf_l, itemsOf_t, sMut_r, fApp_r, Option.bind_some, Option.map_some, List.length_cons, List.length_nil, Nat.zero_add, Nat.reduceAdd, Nat.reduceLT, Nat.reduceLeDiff, List.set_cons_zero, List.set_cons_succ, if_true, Bool.false_eq_true, if_false, Bool.not_true, Bool.not_false, decide_true, decide_false, reduceCtorEq, List.getElem?_cons_succ, List.getElem?_cons_zero, p2])]
  rw [seq_nx (ρ' := [.val (.int f), .bor RS, .own (.list A'), .own (.list X'), s4, s5, s6, .val (.int (P.length : Nat)), s8, s9, s10]) (by
    show (sPut 3 _ _) _ = _
    unfold sPut
    simp only [eK_r, eV_0, eV_s, eB_0v, eB_0b, eB_0p, eB_0o, eB_s, eP_0v, eP_0b, eP_s, eS_0, eS_s, getS_0, getS_s, aNil_r, aCons_r, eOp_r, eUn_r, eCall_r, eBm_r, eTup_r, eLst_r, eIf_r, eAnd_r, eOr_r, eNot_r, eIs_r, eChain_r, eSl_r, oNo_r, oSo_r, asI_r, bT_r, bV_r, bYes_r, asB_r, truth_b, truth_l, truth_t, truth_n, truth_i, bAnd_r, bOr_r, bNot_r, oAdd_i, oSub_i, oNeg_i, oLt_i, oLe_i, oGt_i, oGe_i, cInt_i, cInt_b, cLen_l, cLen_t, cList_l, cList_t, cMax2_i, cMin2_i, cAbs_i, isT_int_i, isT_bool_i, isT_bool_b, isT_int_b, isT_tuple_t, isT_list_l, oEq_i, oNe_i, oEq_b, oNe_b, oIsN_n, oNotN_n, oIsN_i, oNotN_i, oIsB_b, oNotB_b, sSeqn_r, sNext_r, sBrk_r, sCnt_r, sRetN_r, sExpr_r, sRet_r, sRetOwn_r, sIf_r, sSet_r, sOwn_r, sAsg_r, gV_r, gT_r, gsNil_r, gsCons_r, sFz_r, sAug_r, addI_r, subI_r, sSeq_r, sArgs_r, itemsOf_l, itemsOf_t, sMut_r, fApp_r, Option.bind_some, Option.map_some, List.length_cons, List.length_nil, Nat.zero_add, Nat.reduceAdd, Nat.reduceLT, Nat.reduceLeDiff, List.set_cons_zero, List.set_cons_succ, if_true, Bool.false_eq_true, if_false, Bool.not_true, Bool.not_false, decide_true, decide_false, reduceCtorEq, List.getElem?_cons_succ, List.getElem?_cons_zero, x1, x2, p1])]
  simp only [eK_r, eV_0, eV_s, eB_0v, eB_0b, eB_0p, eB_0o, eB_s, eP_0v, eP_0b, eP_s, eS_0, eS_s, getS_0, getS_s, aNil_r, aCons_r, eOp_r, eUn_r, eCall_r, eBm_r, eTup_r, eLst_r, eIf_r, eAnd_r, eOr_r, eNot_r, eIs_r, eChain_r, eSl_r, oNo_r, oSo_r, asI_r, bT_r, bV_r, bYes_r, asB_r, truth_b, truth_l, truth_t, truth_n, truth_i, bAnd_r, bOr_r, bNot_r, oAdd_i, oSub_i, oNeg_i, oLt_i, oLe_i, oGt_i, oGe_i, cInt_i, cInt_b, cLen_l, cLen_t, cList_l, cList_t, cMax2_i, cMin2_i, cAbs_i, isT_int_i, isT_bool_i, isT_bool_b, isT_int_b, isT_tuple_t, isT_list_l, oEq_i, oNe_i, oEq_b, oNe_b, oIsN_n, oNotN_n, oIsN_i, oNotN_i, oIsB_b, oNotB_b, sSeqn_r, sNext_r, sBrk_r, sCnt_r, sRetN_r, sExpr_r, sRet_r, sRetOwn_r, sIf_r, sSet_r, sOwn_r, sAsg_r, gV_r, gT_r, gsNil_r, gsCons_r, sFz_r, sAug_r, addI_r, subI_r, sSeq_r, sArgs_r, itemsOf_l, itemsOf_t, sMut_r, fApp_r, Option.bind_some, Option.map_some, List.length_cons, List.length_nil, Nat.zero_add, Nat.reduceAdd, Nat.reduceLT, Nat.reduceLeDiff, List.set_cons_zero, List.set_cons_succ, if_true, Bool.false_eq_true, if_false, Bool.not_true, Bool.not_false, decide_true, decide_false, reduceCtorEq, x1, x2, x3]
theorem dueLoop (R : List Q4) (s4 s5 s6 s8 s9 s10 : Slot) : ∀ (Z : List (Gi × Int)) (P : List Gi) (f : Int) (s7 : Slot), (P ++ Z.map (·.1)).map core = R.map coreQ →
    ∃ s7', forGo (gV 7) L__law_due_1 ((idxs P.length Z).map fun i : Nat => PyData.int (i : Int)) (RD f R (P ++ Z.map (·.1)) s4 s5 s6 s7 s8 s9 s10) = some (.nx (RD (f - (Z.map dec).sum) R (P ++ Z.map stp) s4 s5 s6 s7' s8 s9 s10))
  | [], P, f, s7, _ => ⟨s7, by
    simp only [idxs, List.map_nil, List.append_nil, List.sum_nil, Int.sub_zero]; rfl⟩
  | z :: Z, P, f, s7, hc => by
    rw [idxs]
    by_cases c : ovr z = true
    · rw [if_pos c, List.map_cons, forGo]
      rw [List.map_cons] at hc
      have st := due1 f R P z Z hc c s4 s5 s6 s8 s9 s10
      obtain ⟨s7', e⟩ := dueLoop R s4 s5 s6 s8 s9 s10 Z (P ++ [stp z]) (f - dec z) (.val (.int (P.length : Nat))) (by
        rw [← hc]
        simp only [List.map_append, List.map_cons, List.map_nil, stp_core, List.append_assoc, List.cons_append, List.nil_append])
      refine ⟨s7', ?_⟩
      rw [List.map_cons, List.map_cons, List.map_cons, List.sum_cons]
      rw [show gV 7 (PyData.int (P.length : Nat)) (RD f R (P ++ z.1 :: Z.map (·.1)) s4 s5 s6 s7 s8 s9 s10) = some (RD f R (P ++ z.1 :: Z.map (·.1)) s4 s5 s6 (.val (.int (P.length : Nat))) s8 s9 s10) from rfl, Option.bind_some, st]
      rw [List.length_append, List.length_singleton, List.append_assoc, List.append_assoc] at e
      rw [show f - (dec z + (Z.map dec).sum) = f - dec z - (Z.map dec).sum by omega]
      exact e
    · rw [if_neg c]
      have hs : stp z = z.1 := by unfold stp; rw [if_neg c]
      have hd : dec z = 0 := by unfold dec; rw [if_neg c]
      obtain ⟨s7', e⟩ := dueLoop R s4 s5 s6 s8 s9 s10 Z (P ++ [z.1]) f s7 (by rw [List.append_assoc]; exact hc)
      refine ⟨s7', ?_⟩
      rw [List.length_append, List.length_singleton, List.append_assoc, List.append_assoc] at e
      rw [List.map_cons, List.map_cons, List.map_cons, List.sum_cons, hs, hd, Int.zero_add]
      exact e
theorem dueOver (f : Int) (R : List Q4) (L : List Gi) (hc : L.map core = R.map coreQ) (ok : ∀ g ∈ L, GiOk g) (hl : L.length ≤ 1000) (s4 s6 s8 s9 s10 : Slot) :
    eLc (sArgs rng1 (aCons (eCall cLen (aCons (eB 1) aNil)) aNil)) (gV 7) (bAnd (bNot (bV (eOp oIx (eB 2) (eB 7)))) (bT (eOp oLt (eOp oSub (eOp oIx (eOp oIx (eB 1) (eB 7)) (eK (.int 0))) (eOp oIx (eB 5) (eB 7))) (eOp oIx (eOp oIx (eB 1) (eB 7)) (eK (.int 2)))))) (eV 7) [7]
      (RD f R L s4 (.val (.list ((dealtV f (L.map (·.a))).map .int))) s6 .un s8 s9 s10) = some (.list ((idxs 0 (zipS f L)).map fun i : Nat => PyData.int (i : Int))) := by
  have hRl : (R.map encQ).length = L.length := by rw [List.length_map]; exact rows_len hc
  have h1 := lcGo_filter (ρ := RD f R L s4 (.val (.list ((dealtV f (L.map (·.a))).map .int))) s6 .un s8 s9 s10) (g := gV 7) (t := bAnd (bNot (bV (eOp oIx (eB 2) (eB 7)))) (bT (eOp oLt (eOp oSub (eOp oIx (eOp oIx (eB 1) (eB 7)) (eK (.int 0))) (eOp oIx (eB 5) (eB 7))) (eOp oIx (eOp oIx (eB 1) (eB 7)) (eK (.int 2)))))) (e := eV 7) (fun i : Nat => PyData.int (i : Int)) (fun i : Nat => PyData.int (i : Int)) (ovAt (zipS f L)) (List.range L.length) fun i hi => by
    have hi := List.mem_range.mp hi
    obtain ⟨z, z1, z2, z3⟩ := zip_at f L i hi
    refine ⟨_, rfl, ?_, fun _ => rfl⟩
    have x1 := stl_at L i z.1 z2
    have x2 := row_at R L hc i z.1 z2
    obtain ⟨x3, _, x5⟩ := encA R L hc i z.1 z2
    have x4 : oIx (.list ((dealtV f (L.map (·.a))).map .int)) (.int (i : Nat)) = some (.int z.2) := by
      rw [oIx_l, atI_pos (by omega), Int.toNat_natCast, List.getElem?_map, z3]; rfl
    have ho : ovAt (zipS f L) i = decide (0 < z.1.a ∧ bI z.1 - z.2 < lI z.1) := by unfold ovAt; rw [z1]; exact ovI z
    have ha := act_nn ok z.1 (List.mem_of_getElem? z2)
    rw [ho]
    generalize rowD R i = row at *
    generalize z.1.a = a at *
    generalize bI z.1 = b at *
    generalize lI z.1 = l at *
    show bAnd _ _ [_, .bor (.list (R.map encQ)), .own (.list (L.map stl)), _, _, .val (.list ((dealtV f (L.map (·.a))).map .int)), _, .val (.int (i : Nat)), _, _, _] = _
    generalize PyData.list (R.map encQ) = RS at *
    generalize PyData.list (L.map stl) = LS at *
    generalize PyData.list ((dealtV f (L.map (·.a))).map .int) = S at *
    by_cases c1 : a = 0
    · rw [decide_eq_true c1] at x1
      have : ¬ 0 < a := by omega
      simp only [eK_r, eV_0, eV_s, eB_0v, eB_0b, eB_0p, eB_0o, eB_s, eP_0v, eP_0b, eP_s, eS_0, eS_s, getS_0, getS_s, aNil_r, aCons_r, eOp_r, eUn_r, eCall_r, eBm_r, eTup_r, eLst_r, eIf_r, eAnd_r, eOr_r, eNot_r, eIs_r, eChain_r, eSl_r, oNo_r, oSo_r, asI_r, bT_r, bV_r, bYes_r, asB_r, truth_b, truth_l, truth_t, truth_n, truth_i, bAnd_r, bOr_r, bNot_r, oAdd_i, oSub_i, oNeg_i, oLt_i, oLe_i, oGt_i, oGe_i, cInt_i, cInt_b, cLen_l, cLen_t, cList_l, cList_t, cMax2_i, cMin2_i, cAbs_i, isT_int_i, isT_bool_i, isT_bool_b, isT_int_b, isT_tuple_t, isT_list_l, oEq_i, oNe_i, oEq_b, oNe_b, oIsN_n, oNotN_n, oIsN_i, oNotN_i, oIsB_b, oNotB_b, sSeqn_r, sNext_r, sBrk_r, sCnt_r, sRetN_r, sExpr_r, sRet_r, sRetOwn_r, sIf_r, sSet_r, sOwn_r, sAsg_r, gV_r, gT_r, gsNil_r, gsCons_r, sFz_r, sAug_r, addI_r, subI_r, sSeq_r, sArgs_r, itemsOf_l, itemsOf_t, sMut_r, fApp_r, Option.bind_some, Option.map_some, List.length_cons, List.length_nil, Nat.zero_add, Nat.reduceAdd, Nat.reduceLT, Nat.reduceLeDiff, List.set_cons_zero, List.set_cons_succ, if_true, Bool.false_eq_true, if_false, Bool.not_true, Bool.not_false, decide_true, decide_false, reduceCtorEq, x1, this, false_and]
    · rw [decide_eq_false c1] at x1
      have : 0 < a := by omega
      simp only [eK_r, eV_0, eV_s, eB_0v, eB_0b, eB_0p, eB_0o, eB_s, eP_0v, eP_0b, eP_s, eS_0, eS_s, getS_0, getS_s, aNil_r, aCons_r, eOp_r, eUn_r, eCall_r, eBm_r, eTup_r, eLst_r, eIf_r, eAnd_r, eOr_r, eNot_r, eIs_r, eChain_r, eSl_r, oNo_r, oSo_r, asI_r, bT_r, bV_r, bYes_r, asB_r, truth_b, truth_l, truth_t, truth_n, truth_i, bAnd_r, bOr_r, bNot_r, oAdd_i, oSub_i, oNeg_i, oLt_i, oLe_i, oGt_i, oGe_i, cInt_i, cInt_b, cLen_l, cLen_t, cList_l, cList_t, cMax2_i, cMin2_i, cAbs_i, isT_int_i, isT_bool_i, isT_bool_b, isT_int_b, isT_tuple_t, isT_list_l, oEq_i, oNe_i, oEq_b, oNe_b, oIsN_n, oNotN_n, oIsN_i, oNotN_i, oIsB_b, oNotB_b, sSeqn_r, sNext_r, sBrk_r, sCnt_r, sRetN_r, sExpr_r, sRet_r, sRetOwn_r, sIf_r, sSet_r, sOwn_r, sAsg_r, gV_r, gT_r, gsNil_r, gsCons_r, sFz_r, sAug_r, addI_r, subI_r, sSeq_r, sArgs_r, itemsOf_l, itemsOf_t, sMut_r, fApp_r, Option.bind_some, Option.map_some, List.length_cons, List.length_nil, Nat.zero_add, Nat.reduceAdd, Nat.reduceLT, Nat.reduceLeDiff, List.set_cons_zero, List.set_cons_succ, if_true, Bool.false_eq_true, if_false, Bool.not_true, Bool.not_false, decide_true, decide_false, reduceCtorEq, x1, x2, x3, x4, x5]
      by_cases c2 : b - z.2 < l
      · simp only [eK_r, eV_0, eV_s, eB_0v, eB_0b, eB_0p, eB_0o, eB_s, eP_0v, eP_0b, eP_s, eS_0, eS_s, getS_0, getS_s, aNil_r, aCons_r, eOp_r, eUn_r, eCall_r, eBm_r, eTup_r, eLst_r, eIf_r, eAnd_r, eOr_r, eNot_r, eIs_r, eChain_r, eSl_r, oNo_r, oSo_r, asI_r, bT_r, bV_r, bYes_r, asB_r, truth_b, truth_l, truth_t, truth_n, truth_i, bAnd_r, bOr_r, bNot_r, oAdd_i, oSub_i, oNeg_i, oLt_i, oLe_i, oGt_i, oGe_i, cInt_i, cInt_b, cLen_l, cLen_t, cList_l, cList_t, cMax2_i, cMin2_i, cAbs_i, isT_int_i, isT_bool_i, isT_bool_b, isT_int_b, isT_tuple_t, isT_list_l, oEq_i, oNe_i, oEq_b, oNe_b, oIsN_n, oNotN_n, oIsN_i, oNotN_i, oIsB_b, oNotB_b, sSeqn_r, sNext_r, sBrk_r, sCnt_r, sRetN_r, sExpr_r, sRet_r, sRetOwn_r, sIf_r, sSet_r, sOwn_r, sAsg_r, gV_r, gT_r, gsNil_r, gsCons_r, sFz_r, sAug_r, addI_r, subI_r, sSeq_r, sArgs_r, itemsOf_l, itemsOf_t, sMut_r, fApp_r, Option.bind_some, Option.map_some, List.length_cons, List.length_nil, Nat.zero_add, Nat.reduceAdd, Nat.reduceLT, Nat.reduceLeDiff, List.set_cons_zero, List.set_cons_succ, if_true, Bool.false_eq_true, if_false, Bool.not_true, Bool.not_false, decide_true, decide_false, reduceCtorEq, c2, this, and_self]
      · simp only [eK_r, eV_0, eV_s, eB_0v, eB_0b, eB_0p, eB_0o, eB_s, eP_0v, eP_0b, eP_s, eS_0, eS_s, getS_0, getS_s, aNil_r, aCons_r, eOp_r, eUn_r, eCall_r, eBm_r, eTup_r, eLst_r, eIf_r, eAnd_r, eOr_r, eNot_r, eIs_r, eChain_r, eSl_r, oNo_r, oSo_r, asI_r, bT_r, bV_r, bYes_r, asB_r, truth_b, truth_l, truth_t, truth_n, truth_i, bAnd_r, bOr_r, bNot_r, oAdd_i, oSub_i, oNeg_i, oLt_i, oLe_i, oGt_i, oGe_i, cInt_i, cInt_b, cLen_l, cLen_t, cList_l, cList_t, cMax2_i, cMin2_i, cAbs_i, isT_int_i, isT_bool_i, isT_bool_b, isT_int_b, isT_tuple_t, isT_list_l, oEq_i, oNe_i, oEq_b, oNe_b, oIsN_n, oNotN_n, oIsN_i, oNotN_i, oIsB_b, oNotB_b, sSeqn_r, sNext_r, sBrk_r, sCnt_r, sRetN_r, sExpr_r, sRet_r, sRetOwn_r, sIf_r, sSet_r, sOwn_r, sAsg_r, gV_r, gT_r, gsNil_r, gsCons_r, sFz_r, sAug_r, addI_r, subI_r, sSeq_r, sArgs_r, itemsOf_l, itemsOf_t, sMut_r, fApp_r, Option.bind_some, Option.map_some, List.length_cons, List.length_nil, Nat.zero_add, Nat.reduceAdd, Nat.reduceLT, Nat.reduceLeDiff, List.set_cons_zero, List.set_cons_succ, if_true, Bool.false_eq_true, if_false, Bool.not_true, Bool.not_false, decide_true, decide_false, reduceCtorEq, c2, and_false]
  have h2 := idxs_filter (zipS f L)
  rw [zip_len] at h2
  rw [h2] at h1
  refine eLc_eq (ds := rangeD 0 L.length) ?_ ?_ ?_
  · exact sArgs_eq (ds := [.int (L.length : Nat)]) (by
      show (aCons (eCall cLen (aCons (eB 1) aNil)) aNil) [_, .bor (.list (R.map encQ)), _, _, _, _, _, _, _, _, _] = _
      simp only [eK_r, eV_0, eV_s, eB_0v, eB_0b, eB_0p, eB_0o, eB_s, eP_0v, eP_0b, eP_s, eS_0, eS_s, getS_0, getS_s, aNil_r, aCons_r, eOp_r, eUn_r, eCall_r, eBm_r, eTup_r, eLst_r, eIf_r, eAnd_r, eOr_r, eNot_r, eIs_r, eChain_r, eSl_r, oNo_r, oSo_r, asI_r, bT_r, bV_r, bYes_r, asB_r, truth_b, truth_l, truth_t, truth_n, truth_i, bAnd_r, bOr_r, bNot_r, oAdd_i, oSub_i, oNeg_i, oLt_i, oLe_i, oGt_i, oGe_i, cInt_i, cInt_b, cLen_l, cLen_t, cList_l, cList_t, cMax2_i, cMin2_i, cAbs_i, isT_int_i, isT_bool_i, isT_bool_b, isT_int_b, isT_tuple_t, isT_list_l, oEq_i, oNe_i, oEq_b, oNe_b, oIsN_n, oNotN_n, oIsN_i, oNotN_i, oIsB_b, oNotB_b, sSeqn_r, sNext_r, sBrk_r, sCnt_r, sRetN_r, sExpr_r, sRet_r, sRetOwn_r, sIf_r, sSet_r, sOwn_r, sAsg_r, gV_r, gT_r, gsNil_r, gsCons_r, sFz_r, sAug_r, addI_r, subI_r, sSeq_r, sArgs_r, itemsOf_l, itemsOf_t, sMut_r, fApp_r, Option.bind_some, Option.map_some, List.length_cons, List.length_nil, Nat.zero_add, Nat.reduceAdd, Nat.reduceLT, Nat.reduceLeDiff, List.set_cons_zero, List.set_cons_succ, if_true, Bool.false_eq_true, if_false, Bool.not_true, Bool.not_false, decide_true, decide_false, reduceCtorEq, hRl]) (rng1_n _ (by omega))
  · rw [rangeD0]; exact h1
  · rw [List.length_map, ← h2]
    have := List.length_filter_le (ovAt (zipS f L)) (List.range L.length)
    rw [List.length_range] at this
    omega
theorem dueRet (f : Int) (R : List Q4) (L : List Gi) (hl : L.length ≤ 1000) (s4 s6 s7 s8 s9 s10 : Slot) :
    (sFz 3 (sRet (eLc (sArgs zipI (aCons (eV 3) (aCons (eP 5) aNil))) (gT 2 (gsCons (gV 9) (gsCons (gV 10) gsNil))) bYes (eOp oSub (eB 9) (eB 10)) [9, 10])))
      (RD f R L s4 (.val (.list ((dealtV f (L.map (·.a))).map .int))) s6 s7 s8 s9 s10) = some (.rt (.list ((((zipS f L).map fnl).map xI).map .int))) := by
  rw [← fnl_x]
  have h1 := lcGo_map (ρ := [.val (.int f), .bor (.list (R.map encQ)), .own (.list (L.map stl)), .val (.list ((L.map xI).map .int)), s4, .val (.list ((dealtV f (L.map (·.a))).map .int)), s6, s7, s8, .un, .un]) (g := gT 2 (gsCons (gV 9) (gsCons (gV 10) gsNil))) (t := bYes) (e := eOp oSub (eB 9) (eB 10)) (fun p : Int × Int => PyData.tuple [.int p.1, .int p.2]) (fun p => PyData.int (p.1 - p.2)) ((L.map xI).zip (dealtV f (L.map (·.a)))) fun p _ => ⟨_, rfl, rfl, rfl⟩
  have h2 : zipI [.list ((L.map xI).map .int), .list ((dealtV f (L.map (·.a))).map .int)] = some (((L.map xI).zip (dealtV f (L.map (·.a)))).map fun p => .tuple [.int p.1, .int p.2]) := by
    show some (zipD _ _) = _
    rw [zipD_ints]
  have h3 : ((L.map xI).zip (dealtV f (L.map (·.a)))).length ≤ 1000 := by
    rw [List.length_zip, List.length_map]
    omega
  rw [List.map_map]
  rw [sFz_r]
  show (sRet _ [_, _, _, .val (.list ((L.map xI).map .int)), _, _, _, _, _, _, _]) = _
  rw [sRet_r, eLc_eq (ds := ((L.map xI).zip (dealtV f (L.map (·.a)))).map fun p => .tuple [.int p.1, .int p.2]) (sArgs_eq (ds := [.list ((L.map xI).map .int), .list ((dealtV f (L.map (·.a))).map .int)]) (by simp only [eK_r, eV_0, eV_s, eB_0v, eB_0b, eB_0p, eB_0o, eB_s, eP_0v, eP_0b, eP_s, eS_0, eS_s, getS_0, getS_s, aNil_r, aCons_r, eOp_r, eUn_r, eCall_r, eBm_r, eTup_r, eLst_r, eIf_r, eAnd_r, eOr_r, eNot_r, eIs_r, eChain_r, eSl_r, oNo_r, oSo_r, asI_r, bT_r, bV_r, bYes_r, asB_r, truth_b, truth_l, truth_t, truth_n, truth_i, bAnd_r, bOr_r, bNot_r, oAdd_i, oSub_i, oNeg_i, oLt_i, oLe_i, oGt_i, oGe_i, cInt_i, cInt_b, cLen_l, cLen_t, cList_l, cList_t, cMax2_i, cMin2_i, cAbs_i, isT_int_i, isT_bool_i, isT_bool_b, isT_int_b, isT_tuple_t, isT_list_l, oEq_i, oNe_i, oEq_b, oNe_b, oIsN_n, oNotN_n, oIsN_i, oNotN_i, oIsB_b, oNotB_b, sSeqn_r, sNext_r, sBrk_r, sCnt_r, sRetN_r, sExpr_r, sRet_r, sRetOwn_r, sIf_r, sSet_r, sOwn_r, sAsg_r, gV_r, gT_r, gsNil_r, gsCons_r, sFz_r, sAug_r, addI_r, subI_r, sSeq_r, sArgs_r, itemsOf_l, itemsOf_t, sMut_r, fApp_r, Option.bind_some, Option.map_some, List.length_cons, List.length_nil, Nat.zero_add, Nat.reduceAdd, Nat.reduceLT, Nat.reduceLeDiff, List.set_cons_zero, List.set_cons_succ, if_true, Bool.false_eq_true, if_false, Bool.not_true, Bool.not_false, decide_true, decide_false, reduceCtorEq]) h2) h1 (by rw [List.length_map]; omega), Option.bind_some]
  rfl
theorem core_stp (f : Int) (L : List Gi) : ((zipS f L).map stp).map core = L.map core := by
  rw [List.map_map]
  refine (List.map_congr_left (g := fun z => core z.1) fun z _ => stp_core z).trans ?_
  have : (zipS f L).map (fun z => core z.1) = ((zipS f L).map (·.1)).map core := by rw [List.map_map]; rfl
  rw [this, zip_fst]
/-- one turn of the law's loop, some still sharing -/
theorem dueRound (f : Int) (R : List Q4) (L : List Gi) (hc : L.map core = R.map coreQ) (ok : ∀ g ∈ L, GiOk g) (hl : L.length ≤ 1000) (hf : 0 ≤ f ∧ f < 9223372036854775808) (hT : 0 < actS L ∧ actS L < 9223372036854775808) (s4 s5 s6 s7 s8 s9 s10 : Slot) :
    (∃ t5 t6 t7, (zipS f L).any ovr = true ∧ L__law_due_2 (RD f R L s4 s5 s6 s7 s8 s9 s10) = some (.nx (RD (f - ((zipS f L).map dec).sum) R ((zipS f L).map stp) s4 t5 t6 t7 s8 s9 s10))) ∨
    ((zipS f L).any ovr = false ∧ L__law_due_2 (RD f R L s4 s5 s6 s7 s8 s9 s10) = some (.rt (.list ((((zipS f L).map fnl).map xI).map .int)))) := by
  have hr := round_eq f hf R L hc ok hl hT
  have hov := dueOver f R L hc ok hl s4 s6 s8 s9 s10
  have hn := notin_stl L ok
  rw [decide_eq_false (by omega)] at hn
  have h6 : L__law_due_2 (RD f R L s4 s5 s6 s7 s8 s9 s10) = (sSeqn (sIf (bT (eOp oEq (eCall cLen (aCons (eB 6) aNil)) (eK (.int 0))))
    (sFz 3 (sRet (eLc (sArgs zipI (aCons (eV 3) (aCons (eP 5) aNil))) (gT 2 (gsCons (gV 9) (gsCons (gV 10) gsNil))) bYes (eOp oSub (eB 9) (eB 10)) [9, 10])))
    sNext)
  (sFor (sSeq (eV 6)) (gV 7) L__law_due_1)) (RD f R L s4 (.val (.list ((dealtV f (L.map (·.a))).map .int))) (.val (.list ((idxs 0 (zipS f L)).map fun i : Nat => PyData.int (i : Int)))) s7 s8 s9 s10) := by
    unfold L__law_due_2
    rw [seq_nx (ρ' := RD f R L s4 s5 s6 s7 s8 s9 s10) (by
      show sIf _ _ _ [_, _, .own (.list (L.map stl)), _, _, _, _, _, _, _, _] = _
      simp only [eK_r, eV_0, eV_s, eB_0v, eB_0b, eB_0p, eB_0o, eB_s, eP_0v, eP_0b, eP_s, eS_0, eS_s, getS_0, getS_s, aNil_r, aCons_r, eOp_r, eUn_r, eCall_r, eBm_r, eTup_r, eLst_r, eIf_r, eAnd_r, eOr_r, eNot_r, eIs_r, eChain_r, eSl_r, oNo_r, oSo_r, asI_r, bT_r, bV_r, bYes_r, asB_r, truth_b, truth_l, truth_t, truth_n, truth_i, bAnd_r, bOr_r, bNot_r, oAdd_i, oSub_i, oNeg_i, oLt_i, oLe_i, oGt_i, oGe_i, cInt_i, cInt_b, cLen_l, cLen_t, cList_l, cList_t, cMax2_i, cMin2_i, cAbs_i, isT_int_i, isT_bool_i, isT_bool_b, isT_int_b, isT_tuple_t, isT_list_l, oEq_i, oNe_i, oEq_b, oNe_b, oIsN_n, oNotN_n, oIsN_i, oNotN_i, oIsB_b, oNotB_b, sSeqn_r, sNext_r, sBrk_r, sCnt_r, sRetN_r, sExpr_r, sRet_r, sRetOwn_r, sIf_r, sSet_r, sOwn_r, sAsg_r, gV_r, gT_r, gsNil_r, gsCons_r, sFz_r, sAug_r, addI_r, subI_r, sSeq_r, sArgs_r, itemsOf_l, itemsOf_t, sMut_r, fApp_r, Option.bind_some, Option.map_some, List.length_cons, List.length_nil, Nat.zero_add, Nat.reduceAdd, Nat.reduceLT, Nat.reduceLeDiff, List.set_cons_zero, List.set_cons_succ, if_true, Bool.false_eq_true, if_false, Bool.not_true, Bool.not_false, decide_true, decide_false, reduceCtorEq, hn])]
    rw [seq_nx (ρ' := RD f R L s4 (.val (.list ((dealtV f (L.map (·.a))).map .int))) s6 s7 s8 s9 s10) (by
      show sSet 5 _ [.val (.int f), .bor (.list (R.map encQ)), .own (.list (L.map stl)), _, _, _, _, _, _, _, _] = _
      simp only [eK_r, eV_0, eV_s, eB_0v, eB_0b, eB_0p, eB_0o, eB_s, eP_0v, eP_0b, eP_s, eS_0, eS_s, getS_0, getS_s, aNil_r, aCons_r, eOp_r, eUn_r, eCall_r, eBm_r, eTup_r, eLst_r, eIf_r, eAnd_r, eOr_r, eNot_r, eIs_r, eChain_r, eSl_r, oNo_r, oSo_r, asI_r, bT_r, bV_r, bYes_r, asB_r, truth_b, truth_l, truth_t, truth_n, truth_i, bAnd_r, bOr_r, bNot_r, oAdd_i, oSub_i, oNeg_i, oLt_i, oLe_i, oGt_i, oGe_i, cInt_i, cInt_b, cLen_l, cLen_t, cList_l, cList_t, cMax2_i, cMin2_i, cAbs_i, isT_int_i, isT_bool_i, isT_bool_b, isT_int_b, isT_tuple_t, isT_list_l, oEq_i, oNe_i, oEq_b, oNe_b, oIsN_n, oNotN_n, oIsN_i, oNotN_i, oIsB_b, oNotB_b, sSeqn_r, sNext_r, sBrk_r, sCnt_r, sRetN_r, sExpr_r, sRet_r, sRetOwn_r, sIf_r, sSet_r, sOwn_r, sAsg_r, gV_r, gT_r, gsNil_r, gsCons_r, sFz_r, sAug_r, addI_r, subI_r, sSeq_r, sArgs_r, itemsOf_l, itemsOf_t, sMut_r, fApp_r, Option.bind_some, Option.map_some, List.length_cons, List.length_nil, Nat.zero_add, Nat.reduceAdd, Nat.reduceLT, Nat.reduceLeDiff, List.set_cons_zero, List.set_cons_succ, if_true, Bool.false_eq_true, if_false, Bool.not_true, Bool.not_false, decide_true, decide_false, reduceCtorEq, hr])]
    have hov2 : eLc (sArgs rng1 (aCons (eCall cLen (aCons (eB 1) aNil)) aNil)) (gV 7) (bAnd (bNot (bV (eOp oIx (eB 2) (eB 7)))) (bT (eOp oLt (eOp oSub (eOp oIx (eOp oIx (eB 1) (eB 7)) (eK (.int 0))) (eOp oIx (eB 5) (eB 7))) (eOp oIx (eOp oIx (eB 1) (eB 7)) (eK (.int 2)))))) (eV 7) [7] (RD f R L s4 (.val (.list ((dealtV f (L.map (·.a))).map .int))) s6 s7 s8 s9 s10) = some (.list ((idxs 0 (zipS f L)).map fun i : Nat => PyData.int (i : Int))) := hov
    rw [seq_nx (sSet_eq hov2 (by simp))]
    rfl
  rw [h6]
  cases ho : (zipS f L).any ovr with
  | false =>
    right
    refine ⟨rfl, ?_⟩
    have hi := (idxs_nil (zipS f L) 0).mpr ho
    rw [hi]
    refine seq_rt ?_
    rw [sIf_r]
    have hb : bT (eOp oEq (eCall cLen (aCons (eB 6) aNil)) (eK (.int 0))) (RD f R L s4 (.val (.list ((dealtV f (L.map (·.a))).map .int))) (.val (.list (([] : List Nat).map fun i : Nat => PyData.int (i : Int)))) s7 s8 s9 s10) = some true := by
      show bT _ [_, _, _, _, _, _, .val (.list []), _, _, _, _] = _
      simp only [eK_r, eV_0, eV_s, eB_0v, eB_0b, eB_0p, eB_0o, eB_s, eP_0v, eP_0b, eP_s, eS_0, eS_s, getS_0, getS_s, aNil_r, aCons_r, eOp_r, eUn_r, eCall_r, eBm_r, eTup_r, eLst_r, eIf_r, eAnd_r, eOr_r, eNot_r, eIs_r, eChain_r, eSl_r, oNo_r, oSo_r, asI_r, bT_r, bV_r, bYes_r, asB_r, truth_b, truth_l, truth_t, truth_n, truth_i, bAnd_r, bOr_r, bNot_r, oAdd_i, oSub_i, oNeg_i, oLt_i, oLe_i, oGt_i, oGe_i, cInt_i, cInt_b, cLen_l, cLen_t, cList_l, cList_t, cMax2_i, cMin2_i, cAbs_i, isT_int_i, isT_bool_i, isT_bool_b, isT_int_b, isT_tuple_t, isT_list_l, oEq_i, oNe_i, oEq_b, oNe_b, oIsN_n, oNotN_n, oIsN_i, oNotN_i, oIsB_b, oNotB_b, sSeqn_r, sNext_r, sBrk_r, sCnt_r, sRetN_r, sExpr_r, sRet_r, sRetOwn_r, sIf_r, sSet_r, sOwn_r, sAsg_r, gV_r, gT_r, gsNil_r, gsCons_r, sFz_r, sAug_r, addI_r, subI_r, sSeq_r, sArgs_r, itemsOf_l, itemsOf_t, sMut_r, fApp_r, Option.bind_some, Option.map_some, List.length_cons, List.length_nil, Nat.zero_add, Nat.reduceAdd, Nat.reduceLT, Nat.reduceLeDiff, List.set_cons_zero, List.set_cons_succ, if_true, Bool.false_eq_true, if_false, Bool.not_true, Bool.not_false, decide_true, decide_false, reduceCtorEq, show (((0 : Nat) : Int) = 0) = True by simp]
    rw [hb]
    exact dueRet f R L hl s4 _ s7 s8 s9 s10
  | true =>
    left
    have hi : idxs 0 (zipS f L) ≠ [] := fun z => by
      rw [(idxs_nil (zipS f L) 0).mp z] at ho; cases ho
    have hb : bT (eOp oEq (eCall cLen (aCons (eB 6) aNil)) (eK (.int 0))) (RD f R L s4 (.val (.list ((dealtV f (L.map (·.a))).map .int))) (.val (.list ((idxs 0 (zipS f L)).map fun i : Nat => PyData.int (i : Int)))) s7 s8 s9 s10) = some false := by
      show bT _ [_, _, _, _, _, _, .val (.list ((idxs 0 (zipS f L)).map fun i : Nat => PyData.int (i : Int))), _, _, _, _] = _
      have hz : ((((idxs 0 (zipS f L)).map fun i : Nat => PyData.int (i : Int)).length : Int) = 0) = False := by
        have := List.length_pos_iff.mpr hi
        rw [List.length_map]; simp; omega
      generalize (idxs 0 (zipS f L)).map (fun i : Nat => PyData.int (i : Int)) = ks at *
      simp only [eK_r, eV_0, eV_s, eB_0v, eB_0b, eB_0p, eB_0o, eB_s, eP_0v, eP_0b, eP_s, eS_0, eS_s, getS_0, getS_s, aNil_r, aCons_r, eOp_r, eUn_r, eCall_r, eBm_r, eTup_r, eLst_r, eIf_r, eAnd_r, eOr_r, eNot_r, eIs_r, eChain_r, eSl_r, oNo_r, oSo_r, asI_r, bT_r, bV_r, bYes_r, asB_r, truth_b, truth_l, truth_t, truth_n, truth_i, bAnd_r, bOr_r, bNot_r, oAdd_i, oSub_i, oNeg_i, oLt_i, oLe_i, oGt_i, oGe_i, cInt_i, cInt_b, cLen_l, cLen_t, cList_l, cList_t, cMax2_i, cMin2_i, cAbs_i, isT_int_i, isT_bool_i, isT_bool_b, isT_int_b, isT_tuple_t, isT_list_l, oEq_i, oNe_i, oEq_b, oNe_b, oIsN_n, oNotN_n, oIsN_i, oNotN_i, oIsB_b, oNotB_b, sSeqn_r, sNext_r, sBrk_r, sCnt_r, sRetN_r, sExpr_r, sRet_r, sRetOwn_r, sIf_r, sSet_r, sOwn_r, sAsg_r, gV_r, gT_r, gsNil_r, gsCons_r, sFz_r, sAug_r, addI_r, subI_r, sSeq_r, sArgs_r, itemsOf_l, itemsOf_t, sMut_r, fApp_r, Option.bind_some, Option.map_some, List.length_cons, List.length_nil, Nat.zero_add, Nat.reduceAdd, Nat.reduceLT, Nat.reduceLeDiff, List.set_cons_zero, List.set_cons_succ, if_true, Bool.false_eq_true, if_false, Bool.not_true, Bool.not_false, decide_true, decide_false, reduceCtorEq, hz]
    have hcz : (([] : List Gi) ++ (zipS f L).map (fun z => z.1)).map core = R.map coreQ := by rw [List.nil_append, zip_fst]; exact hc
    obtain ⟨t7, e⟩ := dueLoop R s4 (.val (.list ((dealtV f (L.map (·.a))).map .int))) (.val (.list ((idxs 0 (zipS f L)).map fun i : Nat => PyData.int (i : Int)))) s8 s9 s10 (zipS f L) [] f s7 hcz
    rw [List.nil_append, List.nil_append, zip_fst] at e
    refine ⟨.val (.list ((dealtV f (L.map (·.a))).map .int)), .val (.list ((idxs 0 (zipS f L)).map fun i : Nat => PyData.int (i : Int))), t7, rfl, ?_⟩
    rw [seq_nx (show sIf _ _ _ _ = some (.nx _) from by rw [sIf_r, hb]; rfl)]
    exact (sFor_eq (ds := (idxs 0 (zipS f L)).map fun i : Nat => PyData.int (i : Int)) rfl).trans e
theorem dueTurns (R : List Q4) {f0 : Int} (hf0 : f0 < 9223372036854775808) : ∀ (n t : Nat) (f : Int) (L : List Gi) (s4 s5 s6 s7 s8 s9 s10 : Slot), Goes f0 f L → Small L → L.map core = R.map coreQ →
    (∃ t4 t5 t6 t7 t8 t9 t10 f' L', forGo (gV 4) L__law_due_2 (rangeD (t : Nat) n) (RD f R L s4 s5 s6 s7 s8 s9 s10) = some (.nx (RD f' R L' t4 t5 t6 t7 t8 t9 t10)) ∧ L' = grw n f L) ∨
    forGo (gV 4) L__law_due_2 (rangeD (t : Nat) n) (RD f R L s4 s5 s6 s7 s8 s9 s10) = some (.rt (.list (((grw n f L).map xI).map .int))) := by
  intro n
  induction n with
  | zero => intro t f L s4 s5 s6 s7 s8 s9 s10 _ _ _; exact .inl ⟨s4, s5, s6, s7, s8, s9, s10, f, L, rfl, rfl⟩
  | succ n ih =>
    intro t f L s4 s5 s6 s7 s8 s9 s10 G hs hc
    have hact := act_small hs G.ok
    have hff := goes_f G
    rw [rangeD_cons, forGo, show gV 4 (.int (t : Nat)) (RD f R L s4 s5 s6 s7 s8 s9 s10) = some (RD f R L (.val (.int (t : Nat))) s5 s6 s7 s8 s9 s10) from rfl, Option.bind_some, grw]
    by_cases hT : actS L = 0
    · right
      have hn := notin_stl L G.ok
      rw [decide_eq_true hT] at hn
      rw [if_pos hT]
      have st : L__law_due_2 (RD f R L (.val (.int (t : Nat))) s5 s6 s7 s8 s9 s10) = some (.rt (.list ((L.map xI).map .int))) := by
        unfold L__law_due_2
        refine seq_rt ?_
        show sIf _ _ _ [_, _, .own (.list (L.map stl)), _, _, _, _, _, _, _, _] = _
        simp only [eK_r, eV_0, eV_s, eB_0v, eB_0b, eB_0p, eB_0o, eB_s, eP_0v, eP_0b, eP_s, eS_0, eS_s, getS_0, getS_s, aNil_r, aCons_r, eOp_r, eUn_r, eCall_r, eBm_r, eTup_r, eLst_r, eIf_r, eAnd_r, eOr_r, eNot_r, eIs_r, eChain_r, eSl_r, oNo_r, oSo_r, asI_r, bT_r, bV_r, bYes_r, asB_r, truth_b, truth_l, truth_t, truth_n, truth_i, bAnd_r, bOr_r, bNot_r, oAdd_i, oSub_i, oNeg_i, oLt_i, oLe_i, oGt_i, oGe_i, cInt_i, cInt_b, cLen_l, cLen_t, cList_l, cList_t, cMax2_i, cMin2_i, cAbs_i, isT_int_i, isT_bool_i, isT_bool_b, isT_int_b, isT_tuple_t, isT_list_l, oEq_i, oNe_i, oEq_b, oNe_b, oIsN_n, oNotN_n, oIsN_i, oNotN_i, oIsB_b, oNotB_b, sSeqn_r, sNext_r, sBrk_r, sCnt_r, sRetN_r, sExpr_r, sRet_r, sRetOwn_r, sIf_r, sSet_r, sOwn_r, sAsg_r, gV_r, gT_r, gsNil_r, gsCons_r, sFz_r, sAug_r, addI_r, subI_r, sSeq_r, sArgs_r, itemsOf_l, itemsOf_t, sMut_r, fApp_r, Option.bind_some, Option.map_some, List.length_cons, List.length_nil, Nat.zero_add, Nat.reduceAdd, Nat.reduceLT, Nat.reduceLeDiff, List.set_cons_zero, List.set_cons_succ, if_true, Bool.false_eq_true, if_false, Bool.not_true, Bool.not_false, decide_true, decide_false, reduceCtorEq, hn]
      rw [st]; rfl
    · have hp : 0 < actS L := by omega
      rw [if_neg hT]
      rcases dueRound f R L hc G.ok hs.1 ⟨G.nf, by omega⟩ ⟨hp, hact.2⟩ (.val (.int (t : Nat))) s5 s6 s7 s8 s9 s10 with ⟨t5, t6, t7, ho, e⟩ | ⟨ho, e⟩
      · rw [e, Option.bind_some, if_pos ho]
        exact ih (t + 1) (f - ((zipS f L).map dec).sum) ((zipS f L).map stp) (.val (.int (t : Nat))) t5 t6 t7 s8 s9 s10 (goes_step G hp) (small_stp hs) (by rw [core_stp]; exact hc)
      · right
        rw [e, Option.bind_some, if_neg (by rw [ho]; exact Bool.false_ne_true)]
theorem due_eq (f : Int) (hf : 0 ≤ f ∧ f < 9223372036854775808) (R : List Q4) (hl : R.length ≤ 1000) (h : ∀ r ∈ R, QOk r) :
    F__law_due [.int f, .list (R.map encQ)] = some (.list (((outG f (R.map coreQ)).map xI).map .int)) := by
  refine box_rt rfl ?_
  have hR : ∀ r ∈ R.map coreQ, RowOk r := fun r hr => by
    obtain ⟨q, hq, rfl⟩ := List.mem_map.mp hr
    exact q_row (h q hq)
  have hG := goes0 f hf.1 (R.map coreQ) hR
  have hS := small0 (R.map coreQ) (by rw [List.length_map]; exact hl) hR
  have hcore : ((R.map coreQ).map gi0).map core = R.map coreQ := by
    rw [List.map_map]
    have : (R.map coreQ).map (core ∘ gi0) = (R.map coreQ).map id := List.map_congr_left fun r _ => rfl
    rw [this, List.map_id]
  have hw := dueTurns R hf.2 (R.length + 1) 0 f ((R.map coreQ).map gi0) .un .un .un .un .un .un .un hG hS hcore
  have ex : ((R.map coreQ).map gi0).map xI = R.map (·.1) := by
    rw [List.map_map, List.map_map]
    refine List.map_congr_left fun q _ => ?_
    show -(-q.1) = q.1
    omega
  have es : ((R.map coreQ).map gi0).map stl = R.map fun r => .bool (decide (r.2.1 = 0)) := by rw [List.map_map, List.map_map]; rfl
  unfold RD at hw
  rw [ex, es] at hw
  have hRl : (R.map encQ).length = R.length := List.length_map ..
  have h1 : lcGo (gV 8) bYes (eOp oEq (eOp oIx (eB 8) (eK (.int 1))) (eK (.int 0))) [.val (.int f), .bor (.list (R.map encQ)), .un, .un, .un, .un, .un, .un, .un, .un, .un] (R.map encQ) = some (R.map fun r => .bool (decide (r.2.1 = 0))) :=
    lcGo_map encQ _ R fun r _ => ⟨_, rfl, rfl, by
      have x1 : oIx (encQ r) (.int 1) = some (.int r.2.1) := rfl
      generalize encQ r = row at *
      simp only [eK_r, eV_0, eV_s, eB_0v, eB_0b, eB_0p, eB_0o, eB_s, eP_0v, eP_0b, eP_s, eS_0, eS_s, getS_0, getS_s, aNil_r, aCons_r, eOp_r, eUn_r, eCall_r, eBm_r, eTup_r, eLst_r, eIf_r, eAnd_r, eOr_r, eNot_r, eIs_r, eChain_r, eSl_r, oNo_r, oSo_r, asI_r, bT_r, bV_r, bYes_r, asB_r, truth_b, truth_l, truth_t, truth_n, truth_i, bAnd_r, bOr_r, bNot_r, oAdd_i, oSub_i, oNeg_i, oLt_i, oLe_i, oGt_i, oGe_i, cInt_i, cInt_b, cLen_l, cLen_t, cList_l, cList_t, cMax2_i, cMin2_i, cAbs_i, isT_int_i, isT_bool_i, isT_bool_b, isT_int_b, isT_tuple_t, isT_list_l, oEq_i, oNe_i, oEq_b, oNe_b, oIsN_n, oNotN_n, oIsN_i, oNotN_i, oIsB_b, oNotB_b, sSeqn_r, sNext_r, sBrk_r, sCnt_r, sRetN_r, sExpr_r, sRet_r, sRetOwn_r, sIf_r, sSet_r, sOwn_r, sAsg_r, gV_r, gT_r, gsNil_r, gsCons_r, sFz_r, sAug_r, addI_r, subI_r, sSeq_r, sArgs_r, itemsOf_l, itemsOf_t, sMut_r, fApp_r, Option.bind_some, Option.map_some, List.length_cons, List.length_nil, Nat.zero_add, Nat.reduceAdd, Nat.reduceLT, Nat.reduceLeDiff, List.set_cons_zero, List.set_cons_succ, if_true, Bool.false_eq_true, if_false, Bool.not_true, Bool.not_false, decide_true, decide_false, reduceCtorEq, x1]⟩
  have h2 : lcGo (gV 8) bYes (eOp oIx (eB 8) (eK (.int 0))) [.val (.int f), .bor (.list (R.map encQ)), .own (.list (R.map fun r => .bool (decide (r.2.1 = 0)))), .un, .un, .un, .un, .un, .un, .un, .un] (R.map encQ) = some ((R.map (·.1)).map .int) := by
    rw [List.map_map]
    exact lcGo_map encQ _ R fun r _ => ⟨_, rfl, rfl, rfl⟩
  show B__law_due [.val (.int f), .bor (.list (R.map encQ)), .un, .un, .un, .un, .un, .un, .un, .un, .un] = _
  unfold B__law_due
  rw [seq_nx (sOwn_eq (eLc_eq (ds := R.map encQ) (by simp only [eK_r, eV_0, eV_s, eB_0v, eB_0b, eB_0p, eB_0o, eB_s, eP_0v, eP_0b, eP_s, eS_0, eS_s, getS_0, getS_s, aNil_r, aCons_r, eOp_r, eUn_r, eCall_r, eBm_r, eTup_r, eLst_r, eIf_r, eAnd_r, eOr_r, eNot_r, eIs_r, eChain_r, eSl_r, oNo_r, oSo_r, asI_r, bT_r, bV_r, bYes_r, asB_r, truth_b, truth_l, truth_t, truth_n, truth_i, bAnd_r, bOr_r, bNot_r, oAdd_i, oSub_i, oNeg_i, oLt_i, oLe_i, oGt_i, oGe_i, cInt_i, cInt_b, cLen_l, cLen_t, cList_l, cList_t, cMax2_i, cMin2_i, cAbs_i, isT_int_i, isT_bool_i, isT_bool_b, isT_int_b, isT_tuple_t, isT_list_l, oEq_i, oNe_i, oEq_b, oNe_b, oIsN_n, oNotN_n, oIsN_i, oNotN_i, oIsB_b, oNotB_b, sSeqn_r, sNext_r, sBrk_r, sCnt_r, sRetN_r, sExpr_r, sRet_r, sRetOwn_r, sIf_r, sSet_r, sOwn_r, sAsg_r, gV_r, gT_r, gsNil_r, gsCons_r, sFz_r, sAug_r, addI_r, subI_r, sSeq_r, sArgs_r, itemsOf_l, itemsOf_t, sMut_r, fApp_r, Option.bind_some, Option.map_some, List.length_cons, List.length_nil, Nat.zero_add, Nat.reduceAdd, Nat.reduceLT, Nat.reduceLeDiff, List.set_cons_zero, List.set_cons_succ, if_true, Bool.false_eq_true, if_false, Bool.not_true, Bool.not_false, decide_true, decide_false, reduceCtorEq]) h1 (by rw [List.length_map]; omega)) (by simp))]
  show sSeqn _ _ [.val (.int f), .bor (.list (R.map encQ)), .own (.list (R.map fun r => .bool (decide (r.2.1 = 0)))), .un, .un, .un, .un, .un, .un, .un, .un] = _
  rw [seq_nx (sOwn_eq (eLc_eq (ds := R.map encQ) (by simp only [eK_r, eV_0, eV_s, eB_0v, eB_0b, eB_0p, eB_0o, eB_s, eP_0v, eP_0b, eP_s, eS_0, eS_s, getS_0, getS_s, aNil_r, aCons_r, eOp_r, eUn_r, eCall_r, eBm_r, eTup_r, eLst_r, eIf_r, eAnd_r, eOr_r, eNot_r, eIs_r, eChain_r, eSl_r, oNo_r, oSo_r, asI_r, bT_r, bV_r, bYes_r, asB_r, truth_b, truth_l, truth_t, truth_n, truth_i, bAnd_r, bOr_r, bNot_r, oAdd_i, oSub_i, oNeg_i, oLt_i, oLe_i, oGt_i, oGe_i, cInt_i, cInt_b, cLen_l, cLen_t, cList_l, cList_t, cMax2_i, cMin2_i, cAbs_i, isT_int_i, isT_bool_i, isT_bool_b, isT_int_b, isT_tuple_t, isT_list_l, oEq_i, oNe_i, oEq_b, oNe_b, oIsN_n, oNotN_n, oIsN_i, oNotN_i, oIsB_b, oNotB_b, sSeqn_r, sNext_r, sBrk_r, sCnt_r, sRetN_r, sExpr_r, sRet_r, sRetOwn_r, sIf_r, sSet_r, sOwn_r, sAsg_r, gV_r, gT_r, gsNil_r, gsCons_r, sFz_r, sAug_r, addI_r, subI_r, sSeq_r, sArgs_r, itemsOf_l, itemsOf_t, sMut_r, fApp_r, Option.bind_some, Option.map_some, List.length_cons, List.length_nil, Nat.zero_add, Nat.reduceAdd, Nat.reduceLT, Nat.reduceLeDiff, List.set_cons_zero, List.set_cons_succ, if_true, Bool.false_eq_true, if_false, Bool.not_true, Bool.not_false, decide_true, decide_false, reduceCtorEq]) h2 (by rw [List.length_map, List.length_map]; omega)) (by simp))]
  show sSeqn _ _ [.val (.int f), .bor (.list (R.map encQ)), .own (.list (R.map fun r => .bool (decide (r.2.1 = 0)))), .own (.list ((R.map (·.1)).map .int)), .un, .un, .un, .un, .un, .un, .un] = _
  have hr := rng1_n (R.length + 1) (by omega)
  have hfo : sFor (sArgs rng1 (aCons (eOp oAdd (eCall cLen (aCons (eB 1) aNil)) (eK (.int 1))) aNil)) (gV 4) L__law_due_2 [.val (.int f), .bor (.list (R.map encQ)), .own (.list (R.map fun r => .bool (decide (r.2.1 = 0)))), .own (.list ((R.map (·.1)).map .int)), .un, .un, .un, .un, .un, .un, .un] = forGo (gV 4) L__law_due_2 (rangeD 0 (R.length + 1)) [.val (.int f), .bor (.list (R.map encQ)), .own (.list (R.map fun r => .bool (decide (r.2.1 = 0)))), .own (.list ((R.map (·.1)).map .int)), .un, .un, .un, .un, .un, .un, .un] :=
    sFor_eq (sArgs_eq (ds := [.int ((R.length + 1 : Nat) : Int)]) (by simp only [eK_r, eV_0, eV_s, eB_0v, eB_0b, eB_0p, eB_0o, eB_s, eP_0v, eP_0b, eP_s, eS_0, eS_s, getS_0, getS_s, aNil_r, aCons_r, eOp_r, eUn_r, eCall_r, eBm_r, eTup_r, eLst_r, eIf_r, eAnd_r, eOr_r, eNot_r, eIs_r, eChain_r, eSl_r, oNo_r, oSo_r, asI_r, bT_r, bV_r, bYes_r, asB_r, truth_b, truth_l, truth_t, truth_n, truth_i, bAnd_r, bOr_r, bNot_r, oAdd_i, oSub_i, oNeg_i, oLt_i, oLe_i, oGt_i, oGe_i, cInt_i, cInt_b, cLen_l, cLen_t, cList_l, cList_t, cMax2_i, cMin2_i, cAbs_i, isT_int_i, isT_bool_i, isT_bool_b, isT_int_b, isT_tuple_t, isT_list_l, oEq_i, oNe_i, oEq_b, oNe_b, oIsN_n, oNotN_n, oIsN_i, oNotN_i, oIsB_b, oNotB_b, sSeqn_r, sNext_r, sBrk_r, sCnt_r, sRetN_r, sExpr_r, sRet_r, sRetOwn_r, sIf_r, sSet_r, sOwn_r, sAsg_r, gV_r, gT_r, gsNil_r, gsCons_r, sFz_r, sAug_r, addI_r, subI_r, sSeq_r, sArgs_r, itemsOf_l, itemsOf_t, sMut_r, fApp_r, Option.bind_some, Option.map_some, List.length_cons, List.length_nil, Nat.zero_add, Nat.reduceAdd, Nat.reduceLT, Nat.reduceLeDiff, List.set_cons_zero, List.set_cons_succ, if_true, Bool.false_eq_true, if_false, Bool.not_true, Bool.not_false, decide_true, decide_false, reduceCtorEq, hRl, Int.natCast_add, Int.cast_ofNat_Int]) hr)
  have elen : grw ((R.map coreQ).length + 1) f ((R.map coreQ).map gi0) = grw (R.length + 1) f ((R.map coreQ).map gi0) := by rw [List.length_map]
  unfold outG
  rw [elen]
  rcases hw with ⟨t4, t5, t6, t7, t8, t9, t10, f', L', e, rfl⟩ | e
  · rw [seq_nx (hfo.trans e)]
    simp only [eK_r, eV_0, eV_s, eB_0v, eB_0b, eB_0p, eB_0o, eB_s, eP_0v, eP_0b, eP_s, eS_0, eS_s, getS_0, getS_s, aNil_r, aCons_r, eOp_r, eUn_r, eCall_r, eBm_r, eTup_r, eLst_r, eIf_r, eAnd_r, eOr_r, eNot_r, eIs_r, eChain_r, eSl_r, oNo_r, oSo_r, asI_r, bT_r, bV_r, bYes_r, asB_r, truth_b, truth_l, truth_t, truth_n, truth_i, bAnd_r, bOr_r, bNot_r, oAdd_i, oSub_i, oNeg_i, oLt_i, oLe_i, oGt_i, oGe_i, cInt_i, cInt_b, cLen_l, cLen_t, cList_l, cList_t, cMax2_i, cMin2_i, cAbs_i, isT_int_i, isT_bool_i, isT_bool_b, isT_int_b, isT_tuple_t, isT_list_l, oEq_i, oNe_i, oEq_b, oNe_b, oIsN_n, oNotN_n, oIsN_i, oNotN_i, oIsB_b, oNotB_b, sSeqn_r, sNext_r, sBrk_r, sCnt_r, sRetN_r, sExpr_r, sRet_r, sRetOwn_r, sIf_r, sSet_r, sOwn_r, sAsg_r, gV_r, gT_r, gsNil_r, gsCons_r, sFz_r, sAug_r, addI_r, subI_r, sSeq_r, sArgs_r, itemsOf_l, itemsOf_t, sMut_r, fApp_r, Option.bind_some, Option.map_some, List.length_cons, List.length_nil, Nat.zero_add, Nat.reduceAdd, Nat.reduceLT, Nat.reduceLeDiff, List.set_cons_zero, List.set_cons_succ, if_true, Bool.false_eq_true, if_false, Bool.not_true, Bool.not_false, decide_true, decide_false, reduceCtorEq]
  · rw [seq_rt (hfo.trans e)]
/-! ### a child -/
theorem mulE {a b : SE} {ρ : Rho} {x y : Int} (h1 : a ρ = some (.int x)) (h2 : b ρ = some (.int y)) (hy : -18446744073709551616 < y ∧ y < 18446744073709551616) : eOp oMulS a b ρ = some (.int (x * y)) := by
  have m1 : oMulS (.int x) (.int y) = some (.int (x * y)) := oMul_r hy.1 hy.2
  unfold eOp
  rw [h1, h2, Option.bind_some, Option.bind_some]
  exact m1
theorem child_ex (n s : Int) (hn : 0 ≤ n) (hs : 1 ≤ s ∧ s ≤ 1000000000) : ∃ r : Q4, F__law_child [.int n, .int s] = some (encQ r) ∧ QOk r := by
  have hm := mixV_b (n + 5)
  have me := mixed_eq (n + 5)
  generalize mixV (n + 5) = m at *
  have q1 : oFdiv (.int n) (.int 4) = some (.int (n / 4)) := oFdiv_i (by omega) (by omega)
  have q2 : oMod (.int (n / 4)) (.int s) = some (.int (n / 4 % s)) := oMod_i (by omega)
  have q3 : oFdiv (.int n) (.int 4000000007) = some (.int (n / 4000000007)) := oFdiv_i (by omega) (by omega)
  have q4 : oMod (.int (n / 4000000007)) (.int 101) = some (.int (n / 4000000007 % 101)) := oMod_i (by omega)
  have q5 : oFdiv (.int n) (.int 404000000707) = some (.int (n / 404000000707)) := oFdiv_i (by omega) (by omega)
  have q7 : oMod (.int n) (.int 4) = some (.int (n % 4)) := oMod_i (by omega)
  have q0 : oFdiv (.int n) (.int 9) = some (.int (n / 9)) := oFdiv_i (by omega) (by omega)
  have q8 : oMod (.int (n / 9)) (.int 4) = some (.int (n / 9 % 4)) := oMod_i (by omega)
  have q9 : oMod (.int m) (.int 5) = some (.int (m % 5)) := oMod_i (by omega)
  have b0 : 0 ≤ n / 4 % s ∧ n / 4 % s < s := ⟨Int.emod_nonneg _ (by omega), Int.emod_lt_of_pos _ (by omega)⟩
  generalize n / 4 % s = base at *
  have q6 : oMod (.int (n / 404000000707)) (.int (base + 1)) = some (.int (n / 404000000707 % (base + 1))) := oMod_i (by omega)
  have b1 : 0 ≤ n / 404000000707 % (base + 1) ∧ n / 404000000707 % (base + 1) < base + 1 := ⟨Int.emod_nonneg _ (by omega), Int.emod_lt_of_pos _ (by omega)⟩
  have b2 : 0 ≤ n / 9 % 4 ∧ n / 9 % 4 < 4 := by omega
  have b3 : 0 ≤ n / 4000000007 % 101 ∧ n / 4000000007 % 101 < 101 := by omega
  generalize n / 404000000707 % (base + 1) = l1 at *
  generalize n / 9 % 4 = m2 at *
  generalize n / 4000000007 % 101 = w1 at *
  generalize m % 5 = tn at *
  obtain ⟨l2, hl2, e1⟩ : ∃ l2 : Int, (0 ≤ l2 ∧ l2 ≤ base) ∧ sIf (bT (eOp oEq (eB 5) (eK (.int 0))))
    (sSet 4 (eCall cMax2 (aCons (eK (.int 0)) (aCons (eOp oSub (eB 2) (eOp oMod (eCall cInt (aCons (eOp oFdiv (eB 0) (eK (.int 9))) aNil)) (eK (.int 4)))) aNil)))) sNext [.bor (.int n), .bor (.int s), .val (.int base), .val (.int w1), .val (.int l1), .val (.int (n % 4)), .un] = some (.nx [.bor (.int n), .bor (.int s), .val (.int base), .val (.int w1), .val (.int l2), .val (.int (n % 4)), .un]) := by
    by_cases c : n % 4 = 0
    · refine ⟨max 0 (base - m2), by omega, ?_⟩
      simp only [eK_r, eV_0, eV_s, eB_0v, eB_0b, eB_0p, eB_0o, eB_s, eP_0v, eP_0b, eP_s, eS_0, eS_s, getS_0, getS_s, aNil_r, aCons_r, eOp_r, eUn_r, eCall_r, eBm_r, eTup_r, eLst_r, eIf_r, eAnd_r, eOr_r, eNot_r, eIs_r, eChain_r, eSl_r, oNo_r, oSo_r, asI_r, bT_r, bV_r, bYes_r, asB_r, truth_b, truth_l, truth_t, truth_n, truth_i, bAnd_r, bOr_r, bNot_r, oAdd_i, oSub_i, oNeg_i, oLt_i, oLe_i, oGt_i, oGe_i, cInt_i, cInt_b, cLen_l, cLen_t, cList_l, cList_t, cMax2_i, cMin2_i, cAbs_i, isT_int_i, isT_bool_i, isT_bool_b, isT_int_b, isT_tuple_t, isT_list_l, oEq_i, oNe_i, oEq_b, oNe_b, oIsN_n, oNotN_n, oIsN_i, oNotN_i, oIsB_b, oNotB_b, sSeqn_r, sNext_r, sBrk_r, sCnt_r, sRetN_r, sExpr_r, sRet_r, sRetOwn_r, sIf_r, sSet_r, sOwn_r, sAsg_r, gV_r, gT_r, gsNil_r, gsCons_r, sFz_r, sAug_r, addI_r, subI_r, sSeq_r, sArgs_r, itemsOf_l, itemsOf_t, sMut_r, fApp_r, Option.bind_some, Option.map_some, List.length_cons, List.length_nil, Nat.zero_add, Nat.reduceAdd, Nat.reduceLT, Nat.reduceLeDiff, List.set_cons_zero, List.set_cons_succ, if_true, Bool.false_eq_true, if_false, Bool.not_true, Bool.not_false, decide_true, decide_false, reduceCtorEq, c, q0, q8]
    · exact ⟨l1, by omega, by simp only [eK_r, eV_0, eV_s, eB_0v, eB_0b, eB_0p, eB_0o, eB_s, eP_0v, eP_0b, eP_s, eS_0, eS_s, getS_0, getS_s, aNil_r, aCons_r, eOp_r, eUn_r, eCall_r, eBm_r, eTup_r, eLst_r, eIf_r, eAnd_r, eOr_r, eNot_r, eIs_r, eChain_r, eSl_r, oNo_r, oSo_r, asI_r, bT_r, bV_r, bYes_r, asB_r, truth_b, truth_l, truth_t, truth_n, truth_i, bAnd_r, bOr_r, bNot_r, oAdd_i, oSub_i, oNeg_i, oLt_i, oLe_i, oGt_i, oGe_i, cInt_i, cInt_b, cLen_l, cLen_t, cList_l, cList_t, cMax2_i, cMin2_i, cAbs_i, isT_int_i, isT_bool_i, isT_bool_b, isT_int_b, isT_tuple_t, isT_list_l, oEq_i, oNe_i, oEq_b, oNe_b, oIsN_n, oNotN_n, oIsN_i, oNotN_i, oIsB_b, oNotB_b, sSeqn_r, sNext_r, sBrk_r, sCnt_r, sRetN_r, sExpr_r, sRet_r, sRetOwn_r, sIf_r, sSet_r, sOwn_r, sAsg_r, gV_r, gT_r, gsNil_r, gsCons_r, sFz_r, sAug_r, addI_r, subI_r, sSeq_r, sArgs_r, itemsOf_l, itemsOf_t, sMut_r, fApp_r, Option.bind_some, Option.map_some, List.length_cons, List.length_nil, Nat.zero_add, Nat.reduceAdd, Nat.reduceLT, Nat.reduceLeDiff, List.set_cons_zero, List.set_cons_succ, if_true, Bool.false_eq_true, if_false, Bool.not_true, Bool.not_false, decide_true, decide_false, reduceCtorEq, c]⟩
  obtain ⟨w2, hw2, e2⟩ : ∃ w2 : Int, (0 ≤ w2 ∧ w2 ≤ 101) ∧ sIf (bT (eOp oEq (eB 5) (eK (.int 1)))) (sSet 3 (eK (.int 1))) sNext [.bor (.int n), .bor (.int s), .val (.int base), .val (.int w1), .val (.int l2), .val (.int (n % 4)), .un] = some (.nx [.bor (.int n), .bor (.int s), .val (.int base), .val (.int w2), .val (.int l2), .val (.int (n % 4)), .un]) := by
    by_cases c : n % 4 = 1
    · exact ⟨1, by omega, by simp only [eK_r, eV_0, eV_s, eB_0v, eB_0b, eB_0p, eB_0o, eB_s, eP_0v, eP_0b, eP_s, eS_0, eS_s, getS_0, getS_s, aNil_r, aCons_r, eOp_r, eUn_r, eCall_r, eBm_r, eTup_r, eLst_r, eIf_r, eAnd_r, eOr_r, eNot_r, eIs_r, eChain_r, eSl_r, oNo_r, oSo_r, asI_r, bT_r, bV_r, bYes_r, asB_r, truth_b, truth_l, truth_t, truth_n, truth_i, bAnd_r, bOr_r, bNot_r, oAdd_i, oSub_i, oNeg_i, oLt_i, oLe_i, oGt_i, oGe_i, cInt_i, cInt_b, cLen_l, cLen_t, cList_l, cList_t, cMax2_i, cMin2_i, cAbs_i, isT_int_i, isT_bool_i, isT_bool_b, isT_int_b, isT_tuple_t, isT_list_l, oEq_i, oNe_i, oEq_b, oNe_b, oIsN_n, oNotN_n, oIsN_i, oNotN_i, oIsB_b, oNotB_b, sSeqn_r, sNext_r, sBrk_r, sCnt_r, sRetN_r, sExpr_r, sRet_r, sRetOwn_r, sIf_r, sSet_r, sOwn_r, sAsg_r, gV_r, gT_r, gsNil_r, gsCons_r, sFz_r, sAug_r, addI_r, subI_r, sSeq_r, sArgs_r, itemsOf_l, itemsOf_t, sMut_r, fApp_r, Option.bind_some, Option.map_some, List.length_cons, List.length_nil, Nat.zero_add, Nat.reduceAdd, Nat.reduceLT, Nat.reduceLeDiff, List.set_cons_zero, List.set_cons_succ, if_true, Bool.false_eq_true, if_false, Bool.not_true, Bool.not_false, decide_true, decide_false, reduceCtorEq, c]⟩
    · exact ⟨w1, by omega, by simp only [eK_r, eV_0, eV_s, eB_0v, eB_0b, eB_0p, eB_0o, eB_s, eP_0v, eP_0b, eP_s, eS_0, eS_s, getS_0, getS_s, aNil_r, aCons_r, eOp_r, eUn_r, eCall_r, eBm_r, eTup_r, eLst_r, eIf_r, eAnd_r, eOr_r, eNot_r, eIs_r, eChain_r, eSl_r, oNo_r, oSo_r, asI_r, bT_r, bV_r, bYes_r, asB_r, truth_b, truth_l, truth_t, truth_n, truth_i, bAnd_r, bOr_r, bNot_r, oAdd_i, oSub_i, oNeg_i, oLt_i, oLe_i, oGt_i, oGe_i, cInt_i, cInt_b, cLen_l, cLen_t, cList_l, cList_t, cMax2_i, cMin2_i, cAbs_i, isT_int_i, isT_bool_i, isT_bool_b, isT_int_b, isT_tuple_t, isT_list_l, oEq_i, oNe_i, oEq_b, oNe_b, oIsN_n, oNotN_n, oIsN_i, oNotN_i, oIsB_b, oNotB_b, sSeqn_r, sNext_r, sBrk_r, sCnt_r, sRetN_r, sExpr_r, sRet_r, sRetOwn_r, sIf_r, sSet_r, sOwn_r, sAsg_r, gV_r, gT_r, gsNil_r, gsCons_r, sFz_r, sAug_r, addI_r, subI_r, sSeq_r, sArgs_r, itemsOf_l, itemsOf_t, sMut_r, fApp_r, Option.bind_some, Option.map_some, List.length_cons, List.length_nil, Nat.zero_add, Nat.reduceAdd, Nat.reduceLT, Nat.reduceLeDiff, List.set_cons_zero, List.set_cons_succ, if_true, Bool.false_eq_true, if_false, Bool.not_true, Bool.not_false, decide_true, decide_false, reduceCtorEq, c]⟩
  obtain ⟨w3, hw3, e3⟩ : ∃ w3 : Int, (0 ≤ w3 ∧ w3 ≤ 101) ∧ sIf (bT (eOp oEq (eB 6) (eK (.int 0)))) (sSet 3 (eK (.int 0))) sNext [.bor (.int n), .bor (.int s), .val (.int base), .val (.int w2), .val (.int l2), .val (.int (n % 4)), .val (.int tn)] = some (.nx [.bor (.int n), .bor (.int s), .val (.int base), .val (.int w3), .val (.int l2), .val (.int (n % 4)), .val (.int tn)]) := by
    by_cases c : tn = 0
    · exact ⟨0, by omega, by simp only [eK_r, eV_0, eV_s, eB_0v, eB_0b, eB_0p, eB_0o, eB_s, eP_0v, eP_0b, eP_s, eS_0, eS_s, getS_0, getS_s, aNil_r, aCons_r, eOp_r, eUn_r, eCall_r, eBm_r, eTup_r, eLst_r, eIf_r, eAnd_r, eOr_r, eNot_r, eIs_r, eChain_r, eSl_r, oNo_r, oSo_r, asI_r, bT_r, bV_r, bYes_r, asB_r, truth_b, truth_l, truth_t, truth_n, truth_i, bAnd_r, bOr_r, bNot_r, oAdd_i, oSub_i, oNeg_i, oLt_i, oLe_i, oGt_i, oGe_i, cInt_i, cInt_b, cLen_l, cLen_t, cList_l, cList_t, cMax2_i, cMin2_i, cAbs_i, isT_int_i, isT_bool_i, isT_bool_b, isT_int_b, isT_tuple_t, isT_list_l, oEq_i, oNe_i, oEq_b, oNe_b, oIsN_n, oNotN_n, oIsN_i, oNotN_i, oIsB_b, oNotB_b, sSeqn_r, sNext_r, sBrk_r, sCnt_r, sRetN_r, sExpr_r, sRet_r, sRetOwn_r, sIf_r, sSet_r, sOwn_r, sAsg_r, gV_r, gT_r, gsNil_r, gsCons_r, sFz_r, sAug_r, addI_r, subI_r, sSeq_r, sArgs_r, itemsOf_l, itemsOf_t, sMut_r, fApp_r, Option.bind_some, Option.map_some, List.length_cons, List.length_nil, Nat.zero_add, Nat.reduceAdd, Nat.reduceLT, Nat.reduceLeDiff, List.set_cons_zero, List.set_cons_succ, if_true, Bool.false_eq_true, if_false, Bool.not_true, Bool.not_false, decide_true, decide_false, reduceCtorEq, c]⟩
    · exact ⟨w2, by omega, by simp only [eK_r, eV_0, eV_s, eB_0v, eB_0b, eB_0p, eB_0o, eB_s, eP_0v, eP_0b, eP_s, eS_0, eS_s, getS_0, getS_s, aNil_r, aCons_r, eOp_r, eUn_r, eCall_r, eBm_r, eTup_r, eLst_r, eIf_r, eAnd_r, eOr_r, eNot_r, eIs_r, eChain_r, eSl_r, oNo_r, oSo_r, asI_r, bT_r, bV_r, bYes_r, asB_r, truth_b, truth_l, truth_t, truth_n, truth_i, bAnd_r, bOr_r, bNot_r, oAdd_i, oSub_i, oNeg_i, oLt_i, oLe_i, oGt_i, oGe_i, cInt_i, cInt_b, cLen_l, cLen_t, cList_l, cList_t, cMax2_i, cMin2_i, cAbs_i, isT_int_i, isT_bool_i, isT_bool_b, isT_int_b, isT_tuple_t, isT_list_l, oEq_i, oNe_i, oEq_b, oNe_b, oIsN_n, oNotN_n, oIsN_i, oNotN_i, oIsB_b, oNotB_b, sSeqn_r, sNext_r, sBrk_r, sCnt_r, sRetN_r, sExpr_r, sRet_r, sRetOwn_r, sIf_r, sSet_r, sOwn_r, sAsg_r, gV_r, gT_r, gsNil_r, gsCons_r, sFz_r, sAug_r, addI_r, subI_r, sSeq_r, sArgs_r, itemsOf_l, itemsOf_t, sMut_r, fApp_r, Option.bind_some, Option.map_some, List.length_cons, List.length_nil, Nat.zero_add, Nat.reduceAdd, Nat.reduceLT, Nat.reduceLeDiff, List.set_cons_zero, List.set_cons_succ, if_true, Bool.false_eq_true, if_false, Bool.not_true, Bool.not_false, decide_true, decide_false, reduceCtorEq, c]⟩
  obtain ⟨l3, hl3, e4⟩ : ∃ l3 : Int, (0 ≤ l3 ∧ l3 ≤ base) ∧ sIf (bT (eOp oEq (eB 6) (eK (.int 1)))) (sSet 4 (eK (.int 0))) sNext [.bor (.int n), .bor (.int s), .val (.int base), .val (.int w3), .val (.int l2), .val (.int (n % 4)), .val (.int tn)] = some (.nx [.bor (.int n), .bor (.int s), .val (.int base), .val (.int w3), .val (.int l3), .val (.int (n % 4)), .val (.int tn)]) := by
    by_cases c : tn = 1
    · exact ⟨0, by omega, by simp only [eK_r, eV_0, eV_s, eB_0v, eB_0b, eB_0p, eB_0o, eB_s, eP_0v, eP_0b, eP_s, eS_0, eS_s, getS_0, getS_s, aNil_r, aCons_r, eOp_r, eUn_r, eCall_r, eBm_r, eTup_r, eLst_r, eIf_r, eAnd_r, eOr_r, eNot_r, eIs_r, eChain_r, eSl_r, oNo_r, oSo_r, asI_r, bT_r, bV_r, bYes_r, asB_r, truth_b, truth_l, truth_t, truth_n, truth_i, bAnd_r, bOr_r, bNot_r, oAdd_i, oSub_i, oNeg_i, oLt_i, oLe_i, oGt_i, oGe_i, cInt_i, cInt_b, cLen_l, cLen_t, cList_l, cList_t, cMax2_i, cMin2_i, cAbs_i, isT_int_i, isT_bool_i, isT_bool_b, isT_int_b, isT_tuple_t, isT_list_l, oEq_i, oNe_i, oEq_b, oNe_b, oIsN_n, oNotN_n, oIsN_i, oNotN_i, oIsB_b, oNotB_b, sSeqn_r, sNext_r, sBrk_r, sCnt_r, sRetN_r, sExpr_r, sRet_r, sRetOwn_r, sIf_r, sSet_r, sOwn_r, sAsg_r, gV_r, gT_r, gsNil_r, gsCons_r, sFz_r, sAug_r, addI_r, subI_r, sSeq_r, sArgs_r, itemsOf_l, itemsOf_t, sMut_r, fApp_r, Option.bind_some, Option.map_some, List.length_cons, List.length_nil, Nat.zero_add, Nat.reduceAdd, Nat.reduceLT, Nat.reduceLeDiff, List.set_cons_zero, List.set_cons_succ, if_true, Bool.false_eq_true, if_false, Bool.not_true, Bool.not_false, decide_true, decide_false, reduceCtorEq, c]⟩
    · exact ⟨l2, by omega, by simp only [eK_r, eV_0, eV_s, eB_0v, eB_0b, eB_0p, eB_0o, eB_s, eP_0v, eP_0b, eP_s, eS_0, eS_s, getS_0, getS_s, aNil_r, aCons_r, eOp_r, eUn_r, eCall_r, eBm_r, eTup_r, eLst_r, eIf_r, eAnd_r, eOr_r, eNot_r, eIs_r, eChain_r, eSl_r, oNo_r, oSo_r, asI_r, bT_r, bV_r, bYes_r, asB_r, truth_b, truth_l, truth_t, truth_n, truth_i, bAnd_r, bOr_r, bNot_r, oAdd_i, oSub_i, oNeg_i, oLt_i, oLe_i, oGt_i, oGe_i, cInt_i, cInt_b, cLen_l, cLen_t, cList_l, cList_t, cMax2_i, cMin2_i, cAbs_i, isT_int_i, isT_bool_i, isT_bool_b, isT_int_b, isT_tuple_t, isT_list_l, oEq_i, oNe_i, oEq_b, oNe_b, oIsN_n, oNotN_n, oIsN_i, oNotN_i, oIsB_b, oNotB_b, sSeqn_r, sNext_r, sBrk_r, sCnt_r, sRetN_r, sExpr_r, sRet_r, sRetOwn_r, sIf_r, sSet_r, sOwn_r, sAsg_r, gV_r, gT_r, gsNil_r, gsCons_r, sFz_r, sAug_r, addI_r, subI_r, sSeq_r, sArgs_r, itemsOf_l, itemsOf_t, sMut_r, fApp_r, Option.bind_some, Option.map_some, List.length_cons, List.length_nil, Nat.zero_add, Nat.reduceAdd, Nat.reduceLT, Nat.reduceLeDiff, List.set_cons_zero, List.set_cons_succ, if_true, Bool.false_eq_true, if_false, Bool.not_true, Bool.not_false, decide_true, decide_false, reduceCtorEq, c]⟩
  refine ⟨(base, w3 * base, l3, w3), box_rt rfl ?_, ⟨by simp only []; omega, by simp only []; omega, by simp only []; omega, by simp only []; omega, rfl, by simp only []; omega, by simp only []; omega⟩⟩
  show B__law_child [.bor (.int n), .bor (.int s), .un, .un, .un, .un, .un] = _
  have le4 : 4 ≤ sizeLine := size_le (by decide)
  unfold B__law_child
  rw [seq_nx (ρ' := [.bor (.int n), .bor (.int s), .val (.int base), .un, .un, .un, .un]) (by simp only [eK_r, eV_0, eV_s, eB_0v, eB_0b, eB_0p, eB_0o, eB_s, eP_0v, eP_0b, eP_s, eS_0, eS_s, getS_0, getS_s, aNil_r, aCons_r, eOp_r, eUn_r, eCall_r, eBm_r, eTup_r, eLst_r, eIf_r, eAnd_r, eOr_r, eNot_r, eIs_r, eChain_r, eSl_r, oNo_r, oSo_r, asI_r, bT_r, bV_r, bYes_r, asB_r, truth_b, truth_l, truth_t, truth_n, truth_i, bAnd_r, bOr_r, bNot_r, oAdd_i, oSub_i, oNeg_i, oLt_i, oLe_i, oGt_i, oGe_i, cInt_i, cInt_b, cLen_l, cLen_t, cList_l, cList_t, cMax2_i, cMin2_i, cAbs_i, isT_int_i, isT_bool_i, isT_bool_b, isT_int_b, isT_tuple_t, isT_list_l, oEq_i, oNe_i, oEq_b, oNe_b, oIsN_n, oNotN_n, oIsN_i, oNotN_i, oIsB_b, oNotB_b, sSeqn_r, sNext_r, sBrk_r, sCnt_r, sRetN_r, sExpr_r, sRet_r, sRetOwn_r, sIf_r, sSet_r, sOwn_r, sAsg_r, gV_r, gT_r, gsNil_r, gsCons_r, sFz_r, sAug_r, addI_r, subI_r, sSeq_r, sArgs_r, itemsOf_l, itemsOf_t, sMut_r, fApp_r, Option.bind_some, Option.map_some, List.length_cons, List.length_nil, Nat.zero_add, Nat.reduceAdd, Nat.reduceLT, Nat.reduceLeDiff, List.set_cons_zero, List.set_cons_succ, if_true, Bool.false_eq_true, if_false, Bool.not_true, Bool.not_false, decide_true, decide_false, reduceCtorEq, q1, q2])]
  rw [seq_nx (ρ' := [.bor (.int n), .bor (.int s), .val (.int base), .val (.int w1), .un, .un, .un]) (by simp only [eK_r, eV_0, eV_s, eB_0v, eB_0b, eB_0p, eB_0o, eB_s, eP_0v, eP_0b, eP_s, eS_0, eS_s, getS_0, getS_s, aNil_r, aCons_r, eOp_r, eUn_r, eCall_r, eBm_r, eTup_r, eLst_r, eIf_r, eAnd_r, eOr_r, eNot_r, eIs_r, eChain_r, eSl_r, oNo_r, oSo_r, asI_r, bT_r, bV_r, bYes_r, asB_r, truth_b, truth_l, truth_t, truth_n, truth_i, bAnd_r, bOr_r, bNot_r, oAdd_i, oSub_i, oNeg_i, oLt_i, oLe_i, oGt_i, oGe_i, cInt_i, cInt_b, cLen_l, cLen_t, cList_l, cList_t, cMax2_i, cMin2_i, cAbs_i, isT_int_i, isT_bool_i, isT_bool_b, isT_int_b, isT_tuple_t, isT_list_l, oEq_i, oNe_i, oEq_b, oNe_b, oIsN_n, oNotN_n, oIsN_i, oNotN_i, oIsB_b, oNotB_b, sSeqn_r, sNext_r, sBrk_r, sCnt_r, sRetN_r, sExpr_r, sRet_r, sRetOwn_r, sIf_r, sSet_r, sOwn_r, sAsg_r, gV_r, gT_r, gsNil_r, gsCons_r, sFz_r, sAug_r, addI_r, subI_r, sSeq_r, sArgs_r, itemsOf_l, itemsOf_t, sMut_r, fApp_r, Option.bind_some, Option.map_some, List.length_cons, List.length_nil, Nat.zero_add, Nat.reduceAdd, Nat.reduceLT, Nat.reduceLeDiff, List.set_cons_zero, List.set_cons_succ, if_true, Bool.false_eq_true, if_false, Bool.not_true, Bool.not_false, decide_true, decide_false, reduceCtorEq, q3, q4])]
  rw [seq_nx (ρ' := [.bor (.int n), .bor (.int s), .val (.int base), .val (.int w1), .val (.int l1), .un, .un]) (by simp only [eK_r, eV_0, eV_s, eB_0v, eB_0b, eB_0p, eB_0o, eB_s, eP_0v, eP_0b, eP_s, eS_0, eS_s, getS_0, getS_s, aNil_r, aCons_r, eOp_r, eUn_r, eCall_r, eBm_r, eTup_r, eLst_r, eIf_r, eAnd_r, eOr_r, eNot_r, eIs_r, eChain_r, eSl_r, oNo_r, oSo_r, asI_r, bT_r, bV_r, bYes_r, asB_r, truth_b, truth_l, truth_t, truth_n, truth_i, bAnd_r, bOr_r, bNot_r, oAdd_i, oSub_i, oNeg_i, oLt_i, oLe_i, oGt_i, oGe_i, cInt_i, cInt_b, cLen_l, cLen_t, cList_l, cList_t, cMax2_i, cMin2_i, cAbs_i, isT_int_i, isT_bool_i, isT_bool_b, isT_int_b, isT_tuple_t, isT_list_l, oEq_i, oNe_i, oEq_b, oNe_b, oIsN_n, oNotN_n, oIsN_i, oNotN_i, oIsB_b, oNotB_b, sSeqn_r, sNext_r, sBrk_r, sCnt_r, sRetN_r, sExpr_r, sRet_r, sRetOwn_r, sIf_r, sSet_r, sOwn_r, sAsg_r, gV_r, gT_r, gsNil_r, gsCons_r, sFz_r, sAug_r, addI_r, subI_r, sSeq_r, sArgs_r, itemsOf_l, itemsOf_t, sMut_r, fApp_r, Option.bind_some, Option.map_some, List.length_cons, List.length_nil, Nat.zero_add, Nat.reduceAdd, Nat.reduceLT, Nat.reduceLeDiff, List.set_cons_zero, List.set_cons_succ, if_true, Bool.false_eq_true, if_false, Bool.not_true, Bool.not_false, decide_true, decide_false, reduceCtorEq, q5, q6])]
  rw [seq_nx (ρ' := [.bor (.int n), .bor (.int s), .val (.int base), .val (.int w1), .val (.int l1), .val (.int (n % 4)), .un]) (by simp only [eK_r, eV_0, eV_s, eB_0v, eB_0b, eB_0p, eB_0o, eB_s, eP_0v, eP_0b, eP_s, eS_0, eS_s, getS_0, getS_s, aNil_r, aCons_r, eOp_r, eUn_r, eCall_r, eBm_r, eTup_r, eLst_r, eIf_r, eAnd_r, eOr_r, eNot_r, eIs_r, eChain_r, eSl_r, oNo_r, oSo_r, asI_r, bT_r, bV_r, bYes_r, asB_r, truth_b, truth_l, truth_t, truth_n, truth_i, bAnd_r, bOr_r, bNot_r, oAdd_i, oSub_i, oNeg_i, oLt_i, oLe_i, oGt_i, oGe_i, cInt_i, cInt_b, cLen_l, cLen_t, cList_l, cList_t, cMax2_i, cMin2_i, cAbs_i, isT_int_i, isT_bool_i, isT_bool_b, isT_int_b, isT_tuple_t, isT_list_l, oEq_i, oNe_i, oEq_b, oNe_b, oIsN_n, oNotN_n, oIsN_i, oNotN_i, oIsB_b, oNotB_b, sSeqn_r, sNext_r, sBrk_r, sCnt_r, sRetN_r, sExpr_r, sRet_r, sRetOwn_r, sIf_r, sSet_r, sOwn_r, sAsg_r, gV_r, gT_r, gsNil_r, gsCons_r, sFz_r, sAug_r, addI_r, subI_r, sSeq_r, sArgs_r, itemsOf_l, itemsOf_t, sMut_r, fApp_r, Option.bind_some, Option.map_some, List.length_cons, List.length_nil, Nat.zero_add, Nat.reduceAdd, Nat.reduceLT, Nat.reduceLeDiff, List.set_cons_zero, List.set_cons_succ, if_true, Bool.false_eq_true, if_false, Bool.not_true, Bool.not_false, decide_true, decide_false, reduceCtorEq, q7])]
  rw [seq_nx e1, seq_nx e2]
  rw [seq_nx (ρ' := [.bor (.int n), .bor (.int s), .val (.int base), .val (.int w2), .val (.int l2), .val (.int (n % 4)), .val (.int tn)]) (by simp only [eK_r, eV_0, eV_s, eB_0v, eB_0b, eB_0p, eB_0o, eB_s, eP_0v, eP_0b, eP_s, eS_0, eS_s, getS_0, getS_s, aNil_r, aCons_r, eOp_r, eUn_r, eCall_r, eBm_r, eTup_r, eLst_r, eIf_r, eAnd_r, eOr_r, eNot_r, eIs_r, eChain_r, eSl_r, oNo_r, oSo_r, asI_r, bT_r, bV_r, bYes_r, asB_r, truth_b, truth_l, truth_t, truth_n, truth_i, bAnd_r, bOr_r, bNot_r, oAdd_i, oSub_i, oNeg_i, oLt_i, oLe_i, oGt_i, oGe_i, cInt_i, cInt_b, cLen_l, cLen_t, cList_l, cList_t, cMax2_i, cMin2_i, cAbs_i, isT_int_i, isT_bool_i, isT_bool_b, isT_int_b, isT_tuple_t, isT_list_l, oEq_i, oNe_i, oEq_b, oNe_b, oIsN_n, oNotN_n, oIsN_i, oNotN_i, oIsB_b, oNotB_b, sSeqn_r, sNext_r, sBrk_r, sCnt_r, sRetN_r, sExpr_r, sRet_r, sRetOwn_r, sIf_r, sSet_r, sOwn_r, sAsg_r, gV_r, gT_r, gsNil_r, gsCons_r, sFz_r, sAug_r, addI_r, subI_r, sSeq_r, sArgs_r, itemsOf_l, itemsOf_t, sMut_r, fApp_r, Option.bind_some, Option.map_some, List.length_cons, List.length_nil, Nat.zero_add, Nat.reduceAdd, Nat.reduceLT, Nat.reduceLeDiff, List.set_cons_zero, List.set_cons_succ, if_true, Bool.false_eq_true, if_false, Bool.not_true, Bool.not_false, decide_true, decide_false, reduceCtorEq, me, q9])]
  rw [seq_nx e3, seq_nx e4]
  have hmul := mulE (a := eB 3) (b := eB 2) (ρ := [.bor (.int n), .bor (.int s), .val (.int base), .val (.int w3), .val (.int l3), .val (.int (n % 4)), .val (.int tn)]) (x := w3) (y := base) rfl rfl (by omega)
  show _ = some (Out.rt (.tuple [.int base, .int (w3 * base), .int l3, .int w3]))
  generalize w3 * base = wb at *
  rw [sRet_r, eTup_r, aCons_r, aCons_r, hmul]
  simp only [eK_r, eV_0, eV_s, eB_0v, eB_0b, eB_0p, eB_0o, eB_s, eP_0v, eP_0b, eP_s, eS_0, eS_s, getS_0, getS_s, aNil_r, aCons_r, eOp_r, eUn_r, eCall_r, eBm_r, eTup_r, eLst_r, eIf_r, eAnd_r, eOr_r, eNot_r, eIs_r, eChain_r, eSl_r, oNo_r, oSo_r, asI_r, bT_r, bV_r, bYes_r, asB_r, truth_b, truth_l, truth_t, truth_n, truth_i, bAnd_r, bOr_r, bNot_r, oAdd_i, oSub_i, oNeg_i, oLt_i, oLe_i, oGt_i, oGe_i, cInt_i, cInt_b, cLen_l, cLen_t, cList_l, cList_t, cMax2_i, cMin2_i, cAbs_i, isT_int_i, isT_bool_i, isT_bool_b, isT_int_b, isT_tuple_t, isT_list_l, oEq_i, oNe_i, oEq_b, oNe_b, oIsN_n, oNotN_n, oIsN_i, oNotN_i, oIsB_b, oNotB_b, sSeqn_r, sNext_r, sBrk_r, sCnt_r, sRetN_r, sExpr_r, sRet_r, sRetOwn_r, sIf_r, sSet_r, sOwn_r, sAsg_r, gV_r, gT_r, gsNil_r, gsCons_r, sFz_r, sAug_r, addI_r, subI_r, sSeq_r, sArgs_r, itemsOf_l, itemsOf_t, sMut_r, fApp_r, Option.bind_some, Option.map_some, List.length_cons, List.length_nil, Nat.zero_add, Nat.reduceAdd, Nat.reduceLT, Nat.reduceLeDiff, List.set_cons_zero, List.set_cons_succ, if_true, Bool.false_eq_true, if_false, Bool.not_true, Bool.not_false, decide_true, decide_false, reduceCtorEq, le4]
/-! ### the losses are even -/
theorem mulSub {a b c d : SE} {ρ : Rho} {x y z w : Int} (h1 : a ρ = some (.int x)) (h2 : b ρ = some (.int y)) (h3 : c ρ = some (.int z)) (h4 : d ρ = some (.int w)) (hy : -18446744073709551616 < y ∧ y < 18446744073709551616) (hw : -18446744073709551616 < w ∧ w < 18446744073709551616) : eOp oSub (eOp oMulS a b) (eOp oMulS c d) ρ = some (.int (x * y - z * w)) := by
  have m1 : oMulS (.int x) (.int y) = some (.int (x * y)) := oMul_r hy.1 hy.2
  have m2 : oMulS (.int z) (.int w) = some (.int (z * w)) := oMul_r hw.1 hw.2
  unfold eOp
  rw [h1, h2, h3, h4, Option.bind_some, Option.bind_some, Option.bind_some, Option.bind_some, m1, m2, Option.bind_some, Option.bind_some]
  rfl
def gnG (g : Gi) : Int := g.x - g.b
theorem even_in (GS : List Gi) (R : List Q4) (hc : GS.map core = R.map coreQ) (hW : ∀ g ∈ GS, 0 ≤ g.w ∧ g.w ≤ 1000000000000) (k : Nat) (gk : Gi) (hk : GS[k]? = some gk) (hE : ∀ gj ∈ GS, 0 < gj.w → gnG gj * gk.w - gnG gk * gj.w < gk.w + gj.w) (s2 : Slot) : ∀ n, n ≤ GS.length → ∀ s4, ∃ t4, forGo (gV 4) L__law_is_even_1 (rangeD ((GS.length - n : Nat) : Int) n) [.bor (.list ((GS.map gnG).map .int)), .bor (.list (R.map encQ)), s2, .val (.int (k : Nat)), s4] = some (.nx [.bor (.list ((GS.map gnG).map .int)), .bor (.list (R.map encQ)), s2, .val (.int (k : Nat)), t4]) := by
  intro n
  induction n with
  | zero => intro _ s4; exact ⟨s4, rfl⟩
  | succ n ih =>
    intro hn s4
    rw [rangeD_down GS.length n hn]
    generalize hj : GS.length - (n + 1) = j at *
    obtain ⟨gj, hgj⟩ : ∃ g, GS[j]? = some g := ⟨_, List.getElem?_eq_getElem (by omega)⟩
    obtain ⟨t4, e⟩ := ih (by omega) (.val (.int (j : Nat)))
    refine ⟨t4, ?_⟩
    have x1 := ix_map GS gnG k gk hk
    have x2 := ix_map GS gnG j gj hgj
    have x3 := row_at R GS hc k gk hk
    have x4 := row_at R GS hc j gj hgj
    have x5 := (encA R GS hc k gk hk).2.1
    have x6 := (encA R GS hc j gj hgj).2.1
    have w1 := hW gk (List.mem_of_getElem? hk)
    have w2 := hW gj (List.mem_of_getElem? hgj)
    have hev := hE gj (List.mem_of_getElem? hgj)
    generalize PyData.list ((GS.map gnG).map .int) = GG at *
    generalize PyData.list (R.map encQ) = RS at *
    generalize rowD R k = rk at *
    generalize rowD R j = rj at *
    generalize gnG gk = vk at *
    generalize gnG gj = vj at *
    have st : L__law_is_even_1 [.bor GG, .bor RS, s2, .val (.int (k : Nat)), .val (.int (j : Nat))] = some (.nx [.bor GG, .bor RS, s2, .val (.int (k : Nat)), .val (.int (j : Nat))]) := by
      unfold L__law_is_even_1
      rw [sIf_r, bAnd_r]
      have h1 : bT (eOp oGt (eOp oIx (eOp oIx (eB 1) (eB 4)) (eK (.int 1))) (eK (.int 0))) [.bor GG, .bor RS, s2, .val (.int (k : Nat)), .val (.int (j : Nat))] = some (decide (0 < gj.w)) := by simp only [eK_r, eV_0, eV_s, eB_0v, eB_0b, eB_0p, eB_0o, eB_s, eP_0v, eP_0b, eP_s, eS_0, eS_s, getS_0, getS_s, aNil_r, aCons_r, eOp_r, eUn_r, eCall_r, eBm_r, eTup_r, eLst_r, eIf_r, eAnd_r, eOr_r, eNot_r, eIs_r, eChain_r, eSl_r, oNo_r, oSo_r, asI_r, bT_r, bV_r, bYes_r, asB_r, truth_b, truth_l, truth_t, truth_n, truth_i, bAnd_r, bOr_r, bNot_r, oAdd_i, oSub_i, oNeg_i, oLt_i, oLe_i, oGt_i, oGe_i, cInt_i, cInt_b, cLen_l, cLen_t, cList_l, cList_t, cMax2_i, cMin2_i, cAbs_i, isT_int_i, isT_bool_i, isT_bool_b, isT_int_b, isT_tuple_t, isT_list_l, oEq_i, oNe_i, oEq_b, oNe_b, oIsN_n, oNotN_n, oIsN_i, oNotN_i, oIsB_b, oNotB_b, sSeqn_r, sNext_r, sBrk_r, sCnt_r, sRetN_r, sExpr_r, sRet_r, sRetOwn_r, sIf_r, sSet_r, sOwn_r, sAsg_r, gV_r, gT_r, gsNil_r, gsCons_r, sFz_r, sAug_r, addI_r, subI_r, sSeq_r, sArgs_r, itemsOf_l, itemsOf_t, sMut_r, fApp_r, Option.bind_some, Option.map_some, List.length_cons, List.length_nil, Nat.zero_add, Nat.reduceAdd, Nat.reduceLT, Nat.reduceLeDiff, List.set_cons_zero, List.set_cons_succ, if_true, Bool.false_eq_true, if_false, Bool.not_true, Bool.not_false, decide_true, decide_false, reduceCtorEq, x4, x6]
      rw [h1, Option.bind_some]
      by_cases c : 0 < gj.w
      · rw [decide_eq_true c, if_pos rfl]
        have a1 : (eOp oIx (eB 0) (eB 4)) [.bor GG, .bor RS, s2, .val (.int (k : Nat)), .val (.int (j : Nat))] = some (.int vj) := by simp only [eK_r, eV_0, eV_s, eB_0v, eB_0b, eB_0p, eB_0o, eB_s, eP_0v, eP_0b, eP_s, eS_0, eS_s, getS_0, getS_s, aNil_r, aCons_r, eOp_r, eUn_r, eCall_r, eBm_r, eTup_r, eLst_r, eIf_r, eAnd_r, eOr_r, eNot_r, eIs_r, eChain_r, eSl_r, oNo_r, oSo_r, asI_r, bT_r, bV_r, bYes_r, asB_r, truth_b, truth_l, truth_t, truth_n, truth_i, bAnd_r, bOr_r, bNot_r, oAdd_i, oSub_i, oNeg_i, oLt_i, oLe_i, oGt_i, oGe_i, cInt_i, cInt_b, cLen_l, cLen_t, cList_l, cList_t, cMax2_i, cMin2_i, cAbs_i, isT_int_i, isT_bool_i, isT_bool_b, isT_int_b, isT_tuple_t, isT_list_l, oEq_i, oNe_i, oEq_b, oNe_b, oIsN_n, oNotN_n, oIsN_i, oNotN_i, oIsB_b, oNotB_b, sSeqn_r, sNext_r, sBrk_r, sCnt_r, sRetN_r, sExpr_r, sRet_r, sRetOwn_r, sIf_r, sSet_r, sOwn_r, sAsg_r, gV_r, gT_r, gsNil_r, gsCons_r, sFz_r, sAug_r, addI_r, subI_r, sSeq_r, sArgs_r, itemsOf_l, itemsOf_t, sMut_r, fApp_r, Option.bind_some, Option.map_some, List.length_cons, List.length_nil, Nat.zero_add, Nat.reduceAdd, Nat.reduceLT, Nat.reduceLeDiff, List.set_cons_zero, List.set_cons_succ, if_true, Bool.false_eq_true, if_false, Bool.not_true, Bool.not_false, decide_true, decide_false, reduceCtorEq, x2]
        have a2 : (eOp oIx (eOp oIx (eB 1) (eB 3)) (eK (.int 1))) [.bor GG, .bor RS, s2, .val (.int (k : Nat)), .val (.int (j : Nat))] = some (.int gk.w) := by simp only [eK_r, eV_0, eV_s, eB_0v, eB_0b, eB_0p, eB_0o, eB_s, eP_0v, eP_0b, eP_s, eS_0, eS_s, getS_0, getS_s, aNil_r, aCons_r, eOp_r, eUn_r, eCall_r, eBm_r, eTup_r, eLst_r, eIf_r, eAnd_r, eOr_r, eNot_r, eIs_r, eChain_r, eSl_r, oNo_r, oSo_r, asI_r, bT_r, bV_r, bYes_r, asB_r, truth_b, truth_l, truth_t, truth_n, truth_i, bAnd_r, bOr_r, bNot_r, oAdd_i, oSub_i, oNeg_i, oLt_i, oLe_i, oGt_i, oGe_i, cInt_i, cInt_b, cLen_l, cLen_t, cList_l, cList_t, cMax2_i, cMin2_i, cAbs_i, isT_int_i, isT_bool_i, isT_bool_b, isT_int_b, isT_tuple_t, isT_list_l, oEq_i, oNe_i, oEq_b, oNe_b, oIsN_n, oNotN_n, oIsN_i, oNotN_i, oIsB_b, oNotB_b, sSeqn_r, sNext_r, sBrk_r, sCnt_r, sRetN_r, sExpr_r, sRet_r, sRetOwn_r, sIf_r, sSet_r, sOwn_r, sAsg_r, gV_r, gT_r, gsNil_r, gsCons_r, sFz_r, sAug_r, addI_r, subI_r, sSeq_r, sArgs_r, itemsOf_l, itemsOf_t, sMut_r, fApp_r, Option.bind_some, Option.map_some, List.length_cons, List.length_nil, Nat.zero_add, Nat.reduceAdd, Nat.reduceLT, Nat.reduceLeDiff, List.set_cons_zero, List.set_cons_succ, if_true, Bool.false_eq_true, if_false, Bool.not_true, Bool.not_false, decide_true, decide_false, reduceCtorEq, x3, x5]
        have a3 : (eOp oIx (eB 0) (eB 3)) [.bor GG, .bor RS, s2, .val (.int (k : Nat)), .val (.int (j : Nat))] = some (.int vk) := by simp only [eK_r, eV_0, eV_s, eB_0v, eB_0b, eB_0p, eB_0o, eB_s, eP_0v, eP_0b, eP_s, eS_0, eS_s, getS_0, getS_s, aNil_r, aCons_r, eOp_r, eUn_r, eCall_r, eBm_r, eTup_r, eLst_r, eIf_r, eAnd_r, eOr_r, eNot_r, eIs_r, eChain_r, eSl_r, oNo_r, oSo_r, asI_r, bT_r, bV_r, bYes_r, asB_r, truth_b, truth_l, truth_t, truth_n, truth_i, bAnd_r, bOr_r, bNot_r, oAdd_i, oSub_i, oNeg_i, oLt_i, oLe_i, oGt_i, oGe_i, cInt_i, cInt_b, cLen_l, cLen_t, cList_l, cList_t, cMax2_i, cMin2_i, cAbs_i, isT_int_i, isT_bool_i, isT_bool_b, isT_int_b, isT_tuple_t, isT_list_l, oEq_i, oNe_i, oEq_b, oNe_b, oIsN_n, oNotN_n, oIsN_i, oNotN_i, oIsB_b, oNotB_b, sSeqn_r, sNext_r, sBrk_r, sCnt_r, sRetN_r, sExpr_r, sRet_r, sRetOwn_r, sIf_r, sSet_r, sOwn_r, sAsg_r, gV_r, gT_r, gsNil_r, gsCons_r, sFz_r, sAug_r, addI_r, subI_r, sSeq_r, sArgs_r, itemsOf_l, itemsOf_t, sMut_r, fApp_r, Option.bind_some, Option.map_some, List.length_cons, List.length_nil, Nat.zero_add, Nat.reduceAdd, Nat.reduceLT, Nat.reduceLeDiff, List.set_cons_zero, List.set_cons_succ, if_true, Bool.false_eq_true, if_false, Bool.not_true, Bool.not_false, decide_true, decide_false, reduceCtorEq, x1]
        have a4 : (eOp oIx (eOp oIx (eB 1) (eB 4)) (eK (.int 1))) [.bor GG, .bor RS, s2, .val (.int (k : Nat)), .val (.int (j : Nat))] = some (.int gj.w) := by simp only [eK_r, eV_0, eV_s, eB_0v, eB_0b, eB_0p, eB_0o, eB_s, eP_0v, eP_0b, eP_s, eS_0, eS_s, getS_0, getS_s, aNil_r, aCons_r, eOp_r, eUn_r, eCall_r, eBm_r, eTup_r, eLst_r, eIf_r, eAnd_r, eOr_r, eNot_r, eIs_r, eChain_r, eSl_r, oNo_r, oSo_r, asI_r, bT_r, bV_r, bYes_r, asB_r, truth_b, truth_l, truth_t, truth_n, truth_i, bAnd_r, bOr_r, bNot_r, oAdd_i, oSub_i, oNeg_i, oLt_i, oLe_i, oGt_i, oGe_i, cInt_i, cInt_b, cLen_l, cLen_t, cList_l, cList_t, cMax2_i, cMin2_i, cAbs_i, isT_int_i, isT_bool_i, isT_bool_b, isT_int_b, isT_tuple_t, isT_list_l, oEq_i, oNe_i, oEq_b, oNe_b, oIsN_n, oNotN_n, oIsN_i, oNotN_i, oIsB_b, oNotB_b, sSeqn_r, sNext_r, sBrk_r, sCnt_r, sRetN_r, sExpr_r, sRet_r, sRetOwn_r, sIf_r, sSet_r, sOwn_r, sAsg_r, gV_r, gT_r, gsNil_r, gsCons_r, sFz_r, sAug_r, addI_r, subI_r, sSeq_r, sArgs_r, itemsOf_l, itemsOf_t, sMut_r, fApp_r, Option.bind_some, Option.map_some, List.length_cons, List.length_nil, Nat.zero_add, Nat.reduceAdd, Nat.reduceLT, Nat.reduceLeDiff, List.set_cons_zero, List.set_cons_succ, if_true, Bool.false_eq_true, if_false, Bool.not_true, Bool.not_false, decide_true, decide_false, reduceCtorEq, x4, x6]
        have a5 := mulSub a1 a2 a3 a4 (by omega) (by omega)
        have a6 : (eOp oAdd (eOp oIx (eOp oIx (eB 1) (eB 3)) (eK (.int 1))) (eOp oIx (eOp oIx (eB 1) (eB 4)) (eK (.int 1)))) [.bor GG, .bor RS, s2, .val (.int (k : Nat)), .val (.int (j : Nat))] = some (.int (gk.w + gj.w)) := by
          rw [eOp_r, a2, a4, Option.bind_some, Option.bind_some]; rfl
        have hlt := hev c
        generalize vj * gk.w - vk * gj.w = u at *
        generalize gk.w + gj.w = v at *
        rw [bT_r, eOp_r, a5, a6, Option.bind_some, Option.bind_some, oGe_i, Option.bind_some, asB_r, decide_eq_false (by omega), Option.bind_some, if_neg Bool.false_ne_true]
        rfl
      · rw [decide_eq_false c, if_neg Bool.false_ne_true, Option.bind_some, if_neg Bool.false_ne_true]
        rfl
    have hk1 : GS.length - n = j + 1 := by omega
    rw [hk1] at e ⊢
    rw [forGo, show gV 4 (.int (j : Nat)) [.bor GG, .bor RS, s2, .val (.int (k : Nat)), s4] = some [.bor GG, .bor RS, s2, .val (.int (k : Nat)), .val (.int (j : Nat))] from rfl, Option.bind_some, st]
    exact e
theorem even_ok {f0 : Int} (GS : List Gi) (R : List Q4) (hc : GS.map core = R.map coreQ) (hl : GS.length ≤ 1000) (hW : ∀ g ∈ GS, 0 ≤ g.w ∧ g.w ≤ 1000000000000) (E : Ends f0 GS) : F__law_is_even [.list ((GS.map gnG).map .int), .list (R.map encQ)] = some (.bool true) := by
  refine box_rt rfl ?_
  show B__law_is_even [.bor (.list ((GS.map gnG).map .int)), .bor (.list (R.map encQ)), .un, .un, .un] = _
  have hRl : (R.map encQ).length = GS.length := by rw [List.length_map]; exact rows_len hc
  let p : Nat → Bool := fun k => match GS[k]? with
    | some g => decide (0 < g.w ∧ g.x - g.b < g.l - g.b)
    | none => false
  have h1 := lcGo_filter (ρ := [.bor (.list ((GS.map gnG).map .int)), .bor (.list (R.map encQ)), .un, .un, .un]) (g := gV 3) (t := bAnd (bT (eOp oGt (eOp oIx (eOp oIx (eB 1) (eB 3)) (eK (.int 1))) (eK (.int 0)))) (bT (eOp oLt (eOp oIx (eB 0) (eB 3)) (eOp oSub (eOp oIx (eOp oIx (eB 1) (eB 3)) (eK (.int 0))) (eOp oIx (eOp oIx (eB 1) (eB 3)) (eK (.int 2))))))) (e := eV 3) (fun i : Nat => PyData.int (i : Int)) (fun i : Nat => PyData.int (i : Int)) p (List.range GS.length) fun i hi => by
    have hi := List.mem_range.mp hi
    obtain ⟨g, hg⟩ : ∃ g, GS[i]? = some g := ⟨_, List.getElem?_eq_getElem hi⟩
    refine ⟨_, rfl, ?_, fun _ => rfl⟩
    have x1 := ix_map GS gnG i g hg
    have x3 := row_at R GS hc i g hg
    obtain ⟨x6, x5, x7⟩ := encA R GS hc i g hg
    have hp : p i = decide (0 < g.w ∧ gnG g < bI g - lI g) := by
      show (match GS[i]? with | some g => decide (0 < g.w ∧ g.x - g.b < g.l - g.b) | none => false) = _
      rw [hg]
      unfold gnG bI lI
      exact decide_eq_decide.mpr ⟨fun h => ⟨h.1, by omega⟩, fun h => ⟨h.1, by omega⟩⟩
    rw [hp]
    show bAnd _ _ [.bor (.list ((GS.map gnG).map .int)), .bor (.list (R.map encQ)), _, .val (.int (i : Nat)), _] = _
    generalize PyData.list ((GS.map gnG).map .int) = GG at *
    generalize PyData.list (R.map encQ) = RS at *
    generalize rowD R i = row at *
    generalize bI g = bb at *
    generalize lI g = ll at *
    generalize gnG g = v at *
    simp only [eK_r, eV_0, eV_s, eB_0v, eB_0b, eB_0p, eB_0o, eB_s, eP_0v, eP_0b, eP_s, eS_0, eS_s, getS_0, getS_s, aNil_r, aCons_r, eOp_r, eUn_r, eCall_r, eBm_r, eTup_r, eLst_r, eIf_r, eAnd_r, eOr_r, eNot_r, eIs_r, eChain_r, eSl_r, oNo_r, oSo_r, asI_r, bT_r, bV_r, bYes_r, asB_r, truth_b, truth_l, truth_t, truth_n, truth_i, bAnd_r, bOr_r, bNot_r, oAdd_i, oSub_i, oNeg_i, oLt_i, oLe_i, oGt_i, oGe_i, cInt_i, cInt_b, cLen_l, cLen_t, cList_l, cList_t, cMax2_i, cMin2_i, cAbs_i, isT_int_i, isT_bool_i, isT_bool_b, isT_int_b, isT_tuple_t, isT_list_l, oEq_i, oNe_i, oEq_b, oNe_b, oIsN_n, oNotN_n, oIsN_i, oNotN_i, oIsB_b, oNotB_b, sSeqn_r, sNext_r, sBrk_r, sCnt_r, sRetN_r, sExpr_r, sRet_r, sRetOwn_r, sIf_r, sSet_r, sOwn_r, sAsg_r, gV_r, gT_r, gsNil_r, gsCons_r, sFz_r, sAug_r, addI_r, subI_r, sSeq_r, sArgs_r, itemsOf_l, itemsOf_t, sMut_r, fApp_r, Option.bind_some, Option.map_some, List.length_cons, List.length_nil, Nat.zero_add, Nat.reduceAdd, Nat.reduceLT, Nat.reduceLeDiff, List.set_cons_zero, List.set_cons_succ, if_true, Bool.false_eq_true, if_false, Bool.not_true, Bool.not_false, decide_true, decide_false, reduceCtorEq, x1, x3, x5, x6, x7]
    by_cases c1 : 0 < g.w
    · by_cases c2 : v < bb - ll
      · simp only [eK_r, eV_0, eV_s, eB_0v, eB_0b, eB_0p, eB_0o, eB_s, eP_0v, eP_0b, eP_s, eS_0, eS_s, getS_0, getS_s, aNil_r, aCons_r, eOp_r, eUn_r, eCall_r, eBm_r, eTup_r, eLst_r, eIf_r, eAnd_r, eOr_r, eNot_r, eIs_r, eChain_r, eSl_r, oNo_r, oSo_r, asI_r, bT_r, bV_r, bYes_r, asB_r, truth_b, truth_l, truth_t, truth_n, truth_i, bAnd_r, bOr_r, bNot_r, oAdd_i, oSub_i, oNeg_i, oLt_i, oLe_i, oGt_i, oGe_i, cInt_i, cInt_b, cLen_l, cLen_t, cList_l, cList_t, cMax2_i, cMin2_i, cAbs_i, isT_int_i, isT_bool_i, isT_bool_b, isT_int_b, isT_tuple_t, isT_list_l, oEq_i, oNe_i, oEq_b, oNe_b, oIsN_n, oNotN_n, oIsN_i, oNotN_i, oIsB_b, oNotB_b, sSeqn_r, sNext_r, sBrk_r, sCnt_r, sRetN_r, sExpr_r, sRet_r, sRetOwn_r, sIf_r, sSet_r, sOwn_r, sAsg_r, gV_r, gT_r, gsNil_r, gsCons_r, sFz_r, sAug_r, addI_r, subI_r, sSeq_r, sArgs_r, itemsOf_l, itemsOf_t, sMut_r, fApp_r, Option.bind_some, Option.map_some, List.length_cons, List.length_nil, Nat.zero_add, Nat.reduceAdd, Nat.reduceLT, Nat.reduceLeDiff, List.set_cons_zero, List.set_cons_succ, if_true, Bool.false_eq_true, if_false, Bool.not_true, Bool.not_false, decide_true, decide_false, reduceCtorEq, c1, c2, and_self]
      · simp only [eK_r, eV_0, eV_s, eB_0v, eB_0b, eB_0p, eB_0o, eB_s, eP_0v, eP_0b, eP_s, eS_0, eS_s, getS_0, getS_s, aNil_r, aCons_r, eOp_r, eUn_r, eCall_r, eBm_r, eTup_r, eLst_r, eIf_r, eAnd_r, eOr_r, eNot_r, eIs_r, eChain_r, eSl_r, oNo_r, oSo_r, asI_r, bT_r, bV_r, bYes_r, asB_r, truth_b, truth_l, truth_t, truth_n, truth_i, bAnd_r, bOr_r, bNot_r, oAdd_i, oSub_i, oNeg_i, oLt_i, oLe_i, oGt_i, oGe_i, cInt_i, cInt_b, cLen_l, cLen_t, cList_l, cList_t, cMax2_i, cMin2_i, cAbs_i, isT_int_i, isT_bool_i, isT_bool_b, isT_int_b, isT_tuple_t, isT_list_l, oEq_i, oNe_i, oEq_b, oNe_b, oIsN_n, oNotN_n, oIsN_i, oNotN_i, oIsB_b, oNotB_b, sSeqn_r, sNext_r, sBrk_r, sCnt_r, sRetN_r, sExpr_r, sRet_r, sRetOwn_r, sIf_r, sSet_r, sOwn_r, sAsg_r, gV_r, gT_r, gsNil_r, gsCons_r, sFz_r, sAug_r, addI_r, subI_r, sSeq_r, sArgs_r, itemsOf_l, itemsOf_t, sMut_r, fApp_r, Option.bind_some, Option.map_some, List.length_cons, List.length_nil, Nat.zero_add, Nat.reduceAdd, Nat.reduceLT, Nat.reduceLeDiff, List.set_cons_zero, List.set_cons_succ, if_true, Bool.false_eq_true, if_false, Bool.not_true, Bool.not_false, decide_true, decide_false, reduceCtorEq, c1, c2, and_false]
    · simp only [eK_r, eV_0, eV_s, eB_0v, eB_0b, eB_0p, eB_0o, eB_s, eP_0v, eP_0b, eP_s, eS_0, eS_s, getS_0, getS_s, aNil_r, aCons_r, eOp_r, eUn_r, eCall_r, eBm_r, eTup_r, eLst_r, eIf_r, eAnd_r, eOr_r, eNot_r, eIs_r, eChain_r, eSl_r, oNo_r, oSo_r, asI_r, bT_r, bV_r, bYes_r, asB_r, truth_b, truth_l, truth_t, truth_n, truth_i, bAnd_r, bOr_r, bNot_r, oAdd_i, oSub_i, oNeg_i, oLt_i, oLe_i, oGt_i, oGe_i, cInt_i, cInt_b, cLen_l, cLen_t, cList_l, cList_t, cMax2_i, cMin2_i, cAbs_i, isT_int_i, isT_bool_i, isT_bool_b, isT_int_b, isT_tuple_t, isT_list_l, oEq_i, oNe_i, oEq_b, oNe_b, oIsN_n, oNotN_n, oIsN_i, oNotN_i, oIsB_b, oNotB_b, sSeqn_r, sNext_r, sBrk_r, sCnt_r, sRetN_r, sExpr_r, sRet_r, sRetOwn_r, sIf_r, sSet_r, sOwn_r, sAsg_r, gV_r, gT_r, gsNil_r, gsCons_r, sFz_r, sAug_r, addI_r, subI_r, sSeq_r, sArgs_r, itemsOf_l, itemsOf_t, sMut_r, fApp_r, Option.bind_some, Option.map_some, List.length_cons, List.length_nil, Nat.zero_add, Nat.reduceAdd, Nat.reduceLT, Nat.reduceLeDiff, List.set_cons_zero, List.set_cons_succ, if_true, Bool.false_eq_true, if_false, Bool.not_true, Bool.not_false, decide_true, decide_false, reduceCtorEq, c1, false_and]
  have hr := rng1_n GS.length (by omega)
  have hlc : eLc (sArgs rng1 (aCons (eCall cLen (aCons (eB 1) aNil)) aNil)) (gV 3) (bAnd (bT (eOp oGt (eOp oIx (eOp oIx (eB 1) (eB 3)) (eK (.int 1))) (eK (.int 0)))) (bT (eOp oLt (eOp oIx (eB 0) (eB 3)) (eOp oSub (eOp oIx (eOp oIx (eB 1) (eB 3)) (eK (.int 0))) (eOp oIx (eOp oIx (eB 1) (eB 3)) (eK (.int 2))))))) (eV 3) [3] [.bor (.list ((GS.map gnG).map .int)), .bor (.list (R.map encQ)), .un, .un, .un] = some (.list (((List.range GS.length).filter p).map fun i : Nat => PyData.int (i : Int))) := by
    refine eLc_eq (ds := rangeD 0 GS.length) (sArgs_eq (ds := [.int (GS.length : Nat)]) (by simp only [eK_r, eV_0, eV_s, eB_0v, eB_0b, eB_0p, eB_0o, eB_s, eP_0v, eP_0b, eP_s, eS_0, eS_s, getS_0, getS_s, aNil_r, aCons_r, eOp_r, eUn_r, eCall_r, eBm_r, eTup_r, eLst_r, eIf_r, eAnd_r, eOr_r, eNot_r, eIs_r, eChain_r, eSl_r, oNo_r, oSo_r, asI_r, bT_r, bV_r, bYes_r, asB_r, truth_b, truth_l, truth_t, truth_n, truth_i, bAnd_r, bOr_r, bNot_r, oAdd_i, oSub_i, oNeg_i, oLt_i, oLe_i, oGt_i, oGe_i, cInt_i, cInt_b, cLen_l, cLen_t, cList_l, cList_t, cMax2_i, cMin2_i, cAbs_i, isT_int_i, isT_bool_i, isT_bool_b, isT_int_b, isT_tuple_t, isT_list_l, oEq_i, oNe_i, oEq_b, oNe_b, oIsN_n, oNotN_n, oIsN_i, oNotN_i, oIsB_b, oNotB_b, sSeqn_r, sNext_r, sBrk_r, sCnt_r, sRetN_r, sExpr_r, sRet_r, sRetOwn_r, sIf_r, sSet_r, sOwn_r, sAsg_r, gV_r, gT_r, gsNil_r, gsCons_r, sFz_r, sAug_r, addI_r, subI_r, sSeq_r, sArgs_r, itemsOf_l, itemsOf_t, sMut_r, fApp_r, Option.bind_some, Option.map_some, List.length_cons, List.length_nil, Nat.zero_add, Nat.reduceAdd, Nat.reduceLT, Nat.reduceLeDiff, List.set_cons_zero, List.set_cons_succ, if_true, Bool.false_eq_true, if_false, Bool.not_true, Bool.not_false, decide_true, decide_false, reduceCtorEq, hRl]) hr) (by rw [rangeD0]; exact h1) ?_
    rw [List.length_map]
    have := List.length_filter_le p (List.range GS.length)
    rw [List.length_range] at this
    omega
  unfold B__law_is_even
  rw [seq_nx (sSet_eq hlc (by simp))]
  show sSeqn _ _ [.bor (.list ((GS.map gnG).map .int)), .bor (.list (R.map encQ)), .val (.list (((List.range GS.length).filter p).map fun i : Nat => PyData.int (i : Int))), .un, .un] = _
  have hm : ∀ k ∈ (List.range GS.length).filter p, ∃ g, GS[k]? = some g ∧ 0 < g.w ∧ g.x - g.b < g.l - g.b := fun k hk => by
    obtain ⟨h1, h2⟩ := List.mem_filter.mp hk
    have h1 := List.mem_range.mp h1
    obtain ⟨g, hg⟩ : ∃ g, GS[k]? = some g := ⟨_, List.getElem?_eq_getElem h1⟩
    have h2 : (match GS[k]? with | some g => decide (0 < g.w ∧ g.x - g.b < g.l - g.b) | none => false) = true := h2
    rw [hg] at h2
    exact ⟨g, hg, of_decide_eq_true h2⟩
  generalize (List.range GS.length).filter p = ks at *
  obtain ⟨ρ', e, t3, t4, rfl⟩ := for_lst (fun i : Nat => PyData.int (i : Int)) ks (g := gV 3) (b := L__law_is_even_2) (ρ := [.bor (.list ((GS.map gnG).map .int)), .bor (.list (R.map encQ)), .val (.list (ks.map fun i : Nat => PyData.int (i : Int))), .un, .un]) (fun i ρ => ∃ t3 t4, ρ = [.bor (.list ((GS.map gnG).map .int)), .bor (.list (R.map encQ)), .val (.list (ks.map fun i : Nat => PyData.int (i : Int))), t3, t4]) ⟨_, _, rfl⟩ (by
    rintro i k ρ hk ⟨t3, t4, rfl⟩
    obtain ⟨gk, hgk, h1, h2⟩ := hm k (List.mem_of_getElem? hk)
    have hin := even_in GS R hc hW k gk hgk (fun gj hj hw => E.even gk (List.mem_of_getElem? hgk) gj hj h1 h2 hw) (.val (.list (ks.map fun i : Nat => PyData.int (i : Int)))) GS.length (Nat.le_refl _) t4
    rw [Nat.sub_self] at hin
    obtain ⟨u4, e⟩ := hin
    refine ⟨[.bor (.list ((GS.map gnG).map .int)), .bor (.list (R.map encQ)), .val (.list (ks.map fun i : Nat => PyData.int (i : Int))), .val (.int (k : Nat)), t4], _, rfl, ?_, .val (.int (k : Nat)), u4, rfl⟩
    unfold L__law_is_even_2
    exact (sFor_eq (sArgs_eq (ds := [.int (GS.length : Nat)]) (by simp only [eK_r, eV_0, eV_s, eB_0v, eB_0b, eB_0p, eB_0o, eB_s, eP_0v, eP_0b, eP_s, eS_0, eS_s, getS_0, getS_s, aNil_r, aCons_r, eOp_r, eUn_r, eCall_r, eBm_r, eTup_r, eLst_r, eIf_r, eAnd_r, eOr_r, eNot_r, eIs_r, eChain_r, eSl_r, oNo_r, oSo_r, asI_r, bT_r, bV_r, bYes_r, asB_r, truth_b, truth_l, truth_t, truth_n, truth_i, bAnd_r, bOr_r, bNot_r, oAdd_i, oSub_i, oNeg_i, oLt_i, oLe_i, oGt_i, oGe_i, cInt_i, cInt_b, cLen_l, cLen_t, cList_l, cList_t, cMax2_i, cMin2_i, cAbs_i, isT_int_i, isT_bool_i, isT_bool_b, isT_int_b, isT_tuple_t, isT_list_l, oEq_i, oNe_i, oEq_b, oNe_b, oIsN_n, oNotN_n, oIsN_i, oNotN_i, oIsB_b, oNotB_b, sSeqn_r, sNext_r, sBrk_r, sCnt_r, sRetN_r, sExpr_r, sRet_r, sRetOwn_r, sIf_r, sSet_r, sOwn_r, sAsg_r, gV_r, gT_r, gsNil_r, gsCons_r, sFz_r, sAug_r, addI_r, subI_r, sSeq_r, sArgs_r, itemsOf_l, itemsOf_t, sMut_r, fApp_r, Option.bind_some, Option.map_some, List.length_cons, List.length_nil, Nat.zero_add, Nat.reduceAdd, Nat.reduceLT, Nat.reduceLeDiff, List.set_cons_zero, List.set_cons_succ, if_true, Bool.false_eq_true, if_false, Bool.not_true, Bool.not_false, decide_true, decide_false, reduceCtorEq, hRl]) hr)).trans e)
  rw [seq_nx ((sFor_eq (ds := ks.map fun i : Nat => PyData.int (i : Int)) (by simp only [eK_r, eV_0, eV_s, eB_0v, eB_0b, eB_0p, eB_0o, eB_s, eP_0v, eP_0b, eP_s, eS_0, eS_s, getS_0, getS_s, aNil_r, aCons_r, eOp_r, eUn_r, eCall_r, eBm_r, eTup_r, eLst_r, eIf_r, eAnd_r, eOr_r, eNot_r, eIs_r, eChain_r, eSl_r, oNo_r, oSo_r, asI_r, bT_r, bV_r, bYes_r, asB_r, truth_b, truth_l, truth_t, truth_n, truth_i, bAnd_r, bOr_r, bNot_r, oAdd_i, oSub_i, oNeg_i, oLt_i, oLe_i, oGt_i, oGe_i, cInt_i, cInt_b, cLen_l, cLen_t, cList_l, cList_t, cMax2_i, cMin2_i, cAbs_i, isT_int_i, isT_bool_i, isT_bool_b, isT_int_b, isT_tuple_t, isT_list_l, oEq_i, oNe_i, oEq_b, oNe_b, oIsN_n, oNotN_n, oIsN_i, oNotN_i, oIsB_b, oNotB_b, sSeqn_r, sNext_r, sBrk_r, sCnt_r, sRetN_r, sExpr_r, sRet_r, sRetOwn_r, sIf_r, sSet_r, sOwn_r, sAsg_r, gV_r, gT_r, gsNil_r, gsCons_r, sFz_r, sAug_r, addI_r, subI_r, sSeq_r, sArgs_r, itemsOf_l, itemsOf_t, sMut_r, fApp_r, Option.bind_some, Option.map_some, List.length_cons, List.length_nil, Nat.zero_add, Nat.reduceAdd, Nat.reduceLT, Nat.reduceLeDiff, List.set_cons_zero, List.set_cons_succ, if_true, Bool.false_eq_true, if_false, Bool.not_true, Bool.not_false, decide_true, decide_false, reduceCtorEq])).trans e)]
  simp only [eK_r, eV_0, eV_s, eB_0v, eB_0b, eB_0p, eB_0o, eB_s, eP_0v, eP_0b, eP_s, eS_0, eS_s, getS_0, getS_s, aNil_r, aCons_r, eOp_r, eUn_r, eCall_r, eBm_r, eTup_r, eLst_r, eIf_r, eAnd_r, eOr_r, eNot_r, eIs_r, eChain_r, eSl_r, oNo_r, oSo_r, asI_r, bT_r, bV_r, bYes_r, asB_r, truth_b, truth_l, truth_t, truth_n, truth_i, bAnd_r, bOr_r, bNot_r, oAdd_i, oSub_i, oNeg_i, oLt_i, oLe_i, oGt_i, oGe_i, cInt_i, cInt_b, cLen_l, cLen_t, cList_l, cList_t, cMax2_i, cMin2_i, cAbs_i, isT_int_i, isT_bool_i, isT_bool_b, isT_int_b, isT_tuple_t, isT_list_l, oEq_i, oNe_i, oEq_b, oNe_b, oIsN_n, oNotN_n, oIsN_i, oNotN_i, oIsB_b, oNotB_b, sSeqn_r, sNext_r, sBrk_r, sCnt_r, sRetN_r, sExpr_r, sRet_r, sRetOwn_r, sIf_r, sSet_r, sOwn_r, sAsg_r, gV_r, gT_r, gsNil_r, gsCons_r, sFz_r, sAug_r, addI_r, subI_r, sSeq_r, sArgs_r, itemsOf_l, itemsOf_t, sMut_r, fApp_r, Option.bind_some, Option.map_some, List.length_cons, List.length_nil, Nat.zero_add, Nat.reduceAdd, Nat.reduceLT, Nat.reduceLeDiff, List.set_cons_zero, List.set_cons_succ, if_true, Bool.false_eq_true, if_false, Bool.not_true, Bool.not_false, decide_true, decide_false, reduceCtorEq]
theorem intsGo (ρ : Slot → Rho) (hρ : ∀ i x, gV 13 (.int i) (ρ x) = some (ρ (.val (.int i)))) (hst : ∀ i, L_law_2 (ρ (.val (.int i))) = some (.nx (ρ (.val (.int i))))) : ∀ (l : List Int) (x : Slot), ∃ y, forGo (gV 13) L_law_2 (l.map .int) (ρ x) = some (.nx (ρ y))
  | [], x => ⟨x, rfl⟩
  | i :: l, x => by
    obtain ⟨y, e⟩ := intsGo ρ hρ hst l (.val (.int i))
    refine ⟨y, ?_⟩
    rw [List.map_cons, forGo, hρ, Option.bind_some, hst]
    exact e
abbrev R38 (ns : List Int) (N X s : Int) (I : PyData) (s5 : Slot) (B W M : PyData) (s9 s10 s11 s12 s13 s14 s15 s16 : Slot) : Rho := [.scr (.list (ns.map .int)), .val (.int N), .val (.int X), .val (.int s), .own I, s5, .val B, .val W, .val M, s9, s10, s11, s12, s13, s14, s15, s16, .un]
theorem law_end (ns : List Int) (N X s : Int) (s5 : Slot) (d1 d2 d3 d4 d6 d7 : List PyData) (xs : List Int) (d5 : List PyData) (h5 : d5 = xs.map .int) (rm fr SB ST : Int) (n : Nat) (hn : n ≤ 1000)
    (g1 : F_shrink_widths [.int fr, .list d1, .list d2, .list d3] = some (.list d5)) (g2 : F_shrink_widths [.int (fr + 1), .list d1, .list d2, .list d3] = some (.list d7)) (hdue : F__law_due [.int fr, .list d4] = some (.list d5))
    (HD : PyData) (hHD : HD = .list [.list d1, .list d2, .list d3]) (ne3 : oNe HD HD = some (.bool false)) (eq3 : oEq HD HD = some (.bool true)) (neT : oNe (.list d5) (.list d5) = some (.bool false)) (lT : d5.length = n) (lR : d4.length = n) (lG : d6.length = n)
    (hgain : ∀ i : Nat, i < n → ∃ (gx gb gl gw : Int) (row : PyData), oIx (.list d6) (.int (i : Nat)) = some (.int (gb - gx)) ∧ oIx (.list d5) (.int (i : Nat)) = some (.int gx) ∧ oIx (.list d1) (.int (i : Nat)) = some (.int gb) ∧ oIx (.list d3) (.int (i : Nat)) = some (.int gl) ∧ oIx (.list d4) (.int (i : Nat)) = some row ∧ oIx row (.int 1) = some (.int gw) ∧ gl ≤ gx ∧ gx ≤ gb ∧ (gw = 0 → gx = gb) ∧ d6[i]? = some (.int (gb - gx)))
    (sG : cSum [.list d6] = some (.int (min fr rm))) (sB : cSum [.list d1] = some (.int SB)) (sT : cSum [.list d7] = some (.int ST)) (hS : SB - ST = min (fr + 1) rm) (hev : F__law_is_even [.list d6, .list d4] = some (.bool true)) :
    (sSeqn (sSet 11 (eLst (aCons (eCall cList (aCons (eB 6) aNil)) (aCons (eCall cList (aCons (eB 7) aNil)) (aCons (eCall cList (aCons (eB 8) aNil)) aNil)))))
  (sSeqn (sOwn 12 (eCall F_shrink_widths (aCons (eV 10) (aCons (eOp oIx (eB 11) (eK (.int 0))) (aCons (eOp oIx (eB 11) (eK (.int 1))) (aCons (eOp oIx (eB 11) (eK (.int 2))) aNil))))))
  (sSeqn (sIf (bT (eOp oNe (eB 11) (eLst (aCons (eV 6) (aCons (eV 7) (aCons (eV 8) aNil))))))
    (sRet (eK (.bool false)))
    sNext)
  (sSeqn (sIf (bOr (bNot (bV (eIs "list" (eB 12)))) (bOr (bT (eOp oNe (eCall cLen (aCons (eB 12) aNil)) (eCall cLen (aCons (eB 4) aNil)))) (bT (eOp oNe (eB 12) (eCall F__law_due (aCons (eV 10) (aCons (eB 4) aNil)))))))
    (sRet (eK (.bool false)))
    sNext)
  (sSeqn (sForOwn 12 (gV 13) L_law_2)
  (sSeqn (sSet 14 (eLc (sArgs rng1 (aCons (eCall cLen (aCons (eB 4) aNil)) aNil)) (gV 15) bYes (eOp oSub (eOp oIx (eB 6) (eB 15)) (eOp oIx (eB 12) (eB 15))) [15]))
  (sSeqn (sIf (bT (eOp oNe (eCall cSum (aCons (eB 14) aNil)) (eCall cMin2 (aCons (eB 10) (aCons (eB 9) aNil)))))
    (sRet (eK (.bool false)))
    sNext)
  (sSeqn (sFor (sArgs rng1 (aCons (eCall cLen (aCons (eB 4) aNil)) aNil)) (gV 15) L_law_3)
  (sSeqn (sSet 16 (eCall cList (aCons (eB 12) aNil)))
  (sSeqn (sMut fApp 12 (aCons (eUn oNeg (eK (.int 1))) aNil))
  (sSeqn (sIf (bT (eOp oNe (eCall F_shrink_widths (aCons (eV 10) (aCons (eOp oIx (eB 11) (eK (.int 0))) (aCons (eOp oIx (eB 11) (eK (.int 1))) (aCons (eOp oIx (eB 11) (eK (.int 2))) aNil))))) (eB 16)))
    (sRet (eK (.bool false)))
    sNext)
  (sSeqn (sIf (bT (eOp oNe (eOp oSub (eCall cSum (aCons (eB 6) aNil)) (eCall cSum (aCons (eCall F_shrink_widths (aCons (eOp oAdd (eB 10) (eK (.int 1))) (aCons (eOp oIx (eB 11) (eK (.int 0))) (aCons (eOp oIx (eB 11) (eK (.int 1))) (aCons (eOp oIx (eB 11) (eK (.int 2))) aNil))))) aNil))) (eCall cMin2 (aCons (eOp oAdd (eB 10) (eK (.int 1))) (aCons (eB 9) aNil)))))
    (sRet (eK (.bool false)))
    sNext)
  (sRet (eAnd (eOp oEq (eB 11) (eLst (aCons (eV 6) (aCons (eV 7) (aCons (eV 8) aNil))))) (eCall F__law_is_even (aCons (eB 14) (aCons (eB 4) aNil))))))))))))))))) (R38 ns N X s (.list d4) s5 (.list d1) (.list d2) (.list d3) (.val (.int rm)) (.val (.int fr)) .un .un .un .un .un .un) = some (.rt (.bool true)) := by
  have x0 : oIx HD (.int 0) = some (.list d1) := by rw [hHD]; rfl
  have x1 : oIx HD (.int 1) = some (.list d2) := by rw [hHD]; rfl
  have x2 : oIx HD (.int 2) = some (.list d3) := by rw [hHD]; rfl
  have le3 : 3 ≤ sizeLine := size_le (by decide)
  have hL : (eLst (aCons (eV 6) (aCons (eV 7) (aCons (eV 8) aNil)))) = fun ρ => (eLst (aCons (eV 6) (aCons (eV 7) (aCons (eV 8) aNil)))) ρ := rfl
  have hlist : ∀ s9 s10 s11 s12 s13 s14 s15 s16, (eLst (aCons (eV 6) (aCons (eV 7) (aCons (eV 8) aNil)))) (R38 ns N X s (.list d4) s5 (.list d1) (.list d2) (.list d3) s9 s10 s11 s12 s13 s14 s15 s16) = some HD := fun s9 s10 s11 s12 s13 s14 s15 s16 => by
    rw [hHD]; simp only [eK_r, eV_0, eV_s, eB_0v, eB_0b, eB_0p, eB_0o, eB_s, eP_0v, eP_0b, eP_s, eS_0, eS_s, getS_0, getS_s, aNil_r, aCons_r, eOp_r, eUn_r, eCall_r, eBm_r, eTup_r, eLst_r, eIf_r, eAnd_r, eOr_r, eNot_r, eIs_r, eChain_r, eSl_r, oNo_r, oSo_r, asI_r, bT_r, bV_r, bYes_r, asB_r, truth_b, truth_l, truth_t, truth_n, truth_i, bAnd_r, bOr_r, bNot_r, oAdd_i, oSub_i, oNeg_i, oLt_i, oLe_i, oGt_i, oGe_i, cInt_i, cInt_b, cLen_l, cLen_t, cList_l, cList_t, cMax2_i, cMin2_i, cAbs_i, isT_int_i, isT_bool_i, isT_bool_b, isT_int_b, isT_tuple_t, isT_list_l, oEq_i, oNe_i, oEq_b, oNe_b, oIsN_n, oNotN_n, oIsN_i, oNotN_i, oIsB_b, oNotB_b, sSeqn_r, sNext_r, sBrk_r, sCnt_r, sRetN_r, sExpr_r, sRet_r, sRetOwn_r, sIf_r, sSet_r, sOwn_r, sAsg_r, gV_r, gT_r, gsNil_r, gsCons_r, sFz_r, sAug_r, addI_r, subI_r, sSeq_r, sArgs_r, itemsOf_l, itemsOf_t, sMut_r, fApp_r, Option.bind_some, Option.map_some, List.length_cons, List.length_nil, Nat.zero_add, Nat.reduceAdd, Nat.reduceLT, Nat.reduceLeDiff, List.set_cons_zero, List.set_cons_succ, if_true, Bool.false_eq_true, if_false, Bool.not_true, Bool.not_false, decide_true, decide_false, reduceCtorEq, le3]
  have hlist2 : (eLst (aCons (eCall cList (aCons (eB 6) aNil)) (aCons (eCall cList (aCons (eB 7) aNil)) (aCons (eCall cList (aCons (eB 8) aNil)) aNil)))) (R38 ns N X s (.list d4) s5 (.list d1) (.list d2) (.list d3) (.val (.int rm)) (.val (.int fr)) .un .un .un .un .un .un) = some HD := by
    rw [hHD]; simp only [eK_r, eV_0, eV_s, eB_0v, eB_0b, eB_0p, eB_0o, eB_s, eP_0v, eP_0b, eP_s, eS_0, eS_s, getS_0, getS_s, aNil_r, aCons_r, eOp_r, eUn_r, eCall_r, eBm_r, eTup_r, eLst_r, eIf_r, eAnd_r, eOr_r, eNot_r, eIs_r, eChain_r, eSl_r, oNo_r, oSo_r, asI_r, bT_r, bV_r, bYes_r, asB_r, truth_b, truth_l, truth_t, truth_n, truth_i, bAnd_r, bOr_r, bNot_r, oAdd_i, oSub_i, oNeg_i, oLt_i, oLe_i, oGt_i, oGe_i, cInt_i, cInt_b, cLen_l, cLen_t, cList_l, cList_t, cMax2_i, cMin2_i, cAbs_i, isT_int_i, isT_bool_i, isT_bool_b, isT_int_b, isT_tuple_t, isT_list_l, oEq_i, oNe_i, oEq_b, oNe_b, oIsN_n, oNotN_n, oIsN_i, oNotN_i, oIsB_b, oNotB_b, sSeqn_r, sNext_r, sBrk_r, sCnt_r, sRetN_r, sExpr_r, sRet_r, sRetOwn_r, sIf_r, sSet_r, sOwn_r, sAsg_r, gV_r, gT_r, gsNil_r, gsCons_r, sFz_r, sAug_r, addI_r, subI_r, sSeq_r, sArgs_r, itemsOf_l, itemsOf_t, sMut_r, fApp_r, Option.bind_some, Option.map_some, List.length_cons, List.length_nil, Nat.zero_add, Nat.reduceAdd, Nat.reduceLT, Nat.reduceLeDiff, List.set_cons_zero, List.set_cons_succ, if_true, Bool.false_eq_true, if_false, Bool.not_true, Bool.not_false, decide_true, decide_false, reduceCtorEq, le3]
  have hlt : (d5.length : Int) < 16777216 := by omega
  have lt5 : d5.length < sizeLine := by rw [sizeLine_eq]; omega
  have hr := rng1_n n (by omega)
  rw [seq_nx (sSet_eq hlist2 (by simp))]
  show sSeqn _ _ (R38 ns N X s (.list d4) s5 (.list d1) (.list d2) (.list d3) (.val (.int rm)) (.val (.int fr)) (.val HD) .un .un .un .un .un) = _
  rw [seq_nx (ρ' := R38 ns N X s (.list d4) s5 (.list d1) (.list d2) (.list d3) (.val (.int rm)) (.val (.int fr)) (.val HD) (.own (.list d5)) .un .un .un .un) (by simp only [eK_r, eV_0, eV_s, eB_0v, eB_0b, eB_0p, eB_0o, eB_s, eP_0v, eP_0b, eP_s, eS_0, eS_s, getS_0, getS_s, aNil_r, aCons_r, eOp_r, eUn_r, eCall_r, eBm_r, eTup_r, eLst_r, eIf_r, eAnd_r, eOr_r, eNot_r, eIs_r, eChain_r, eSl_r, oNo_r, oSo_r, asI_r, bT_r, bV_r, bYes_r, asB_r, truth_b, truth_l, truth_t, truth_n, truth_i, bAnd_r, bOr_r, bNot_r, oAdd_i, oSub_i, oNeg_i, oLt_i, oLe_i, oGt_i, oGe_i, cInt_i, cInt_b, cLen_l, cLen_t, cList_l, cList_t, cMax2_i, cMin2_i, cAbs_i, isT_int_i, isT_bool_i, isT_bool_b, isT_int_b, isT_tuple_t, isT_list_l, oEq_i, oNe_i, oEq_b, oNe_b, oIsN_n, oNotN_n, oIsN_i, oNotN_i, oIsB_b, oNotB_b, sSeqn_r, sNext_r, sBrk_r, sCnt_r, sRetN_r, sExpr_r, sRet_r, sRetOwn_r, sIf_r, sSet_r, sOwn_r, sAsg_r, gV_r, gT_r, gsNil_r, gsCons_r, sFz_r, sAug_r, addI_r, subI_r, sSeq_r, sArgs_r, itemsOf_l, itemsOf_t, sMut_r, fApp_r, Option.bind_some, Option.map_some, List.length_cons, List.length_nil, Nat.zero_add, Nat.reduceAdd, Nat.reduceLT, Nat.reduceLeDiff, List.set_cons_zero, List.set_cons_succ, if_true, Bool.false_eq_true, if_false, Bool.not_true, Bool.not_false, decide_true, decide_false, reduceCtorEq, x0, x1, x2, g1])]
  rw [seq_nx (ρ' := R38 ns N X s (.list d4) s5 (.list d1) (.list d2) (.list d3) (.val (.int rm)) (.val (.int fr)) (.val HD) (.own (.list d5)) .un .un .un .un) (by
    rw [sIf_r, bT_r, eOp_r, hlist]
    simp only [eK_r, eV_0, eV_s, eB_0v, eB_0b, eB_0p, eB_0o, eB_s, eP_0v, eP_0b, eP_s, eS_0, eS_s, getS_0, getS_s, aNil_r, aCons_r, eOp_r, eUn_r, eCall_r, eBm_r, eTup_r, eLst_r, eIf_r, eAnd_r, eOr_r, eNot_r, eIs_r, eChain_r, eSl_r, oNo_r, oSo_r, asI_r, bT_r, bV_r, bYes_r, asB_r, truth_b, truth_l, truth_t, truth_n, truth_i, bAnd_r, bOr_r, bNot_r, oAdd_i, oSub_i, oNeg_i, oLt_i, oLe_i, oGt_i, oGe_i, cInt_i, cInt_b, cLen_l, cLen_t, cList_l, cList_t, cMax2_i, cMin2_i, cAbs_i, isT_int_i, isT_bool_i, isT_bool_b, isT_int_b, isT_tuple_t, isT_list_l, oEq_i, oNe_i, oEq_b, oNe_b, oIsN_n, oNotN_n, oIsN_i, oNotN_i, oIsB_b, oNotB_b, sSeqn_r, sNext_r, sBrk_r, sCnt_r, sRetN_r, sExpr_r, sRet_r, sRetOwn_r, sIf_r, sSet_r, sOwn_r, sAsg_r, gV_r, gT_r, gsNil_r, gsCons_r, sFz_r, sAug_r, addI_r, subI_r, sSeq_r, sArgs_r, itemsOf_l, itemsOf_t, sMut_r, fApp_r, Option.bind_some, Option.map_some, List.length_cons, List.length_nil, Nat.zero_add, Nat.reduceAdd, Nat.reduceLT, Nat.reduceLeDiff, List.set_cons_zero, List.set_cons_succ, if_true, Bool.false_eq_true, if_false, Bool.not_true, Bool.not_false, decide_true, decide_false, reduceCtorEq, ne3])]
  rw [seq_nx (ρ' := R38 ns N X s (.list d4) s5 (.list d1) (.list d2) (.list d3) (.val (.int rm)) (.val (.int fr)) (.val HD) (.own (.list d5)) .un .un .un .un) (by simp only [eK_r, eV_0, eV_s, eB_0v, eB_0b, eB_0p, eB_0o, eB_s, eP_0v, eP_0b, eP_s, eS_0, eS_s, getS_0, getS_s, aNil_r, aCons_r, eOp_r, eUn_r, eCall_r, eBm_r, eTup_r, eLst_r, eIf_r, eAnd_r, eOr_r, eNot_r, eIs_r, eChain_r, eSl_r, oNo_r, oSo_r, asI_r, bT_r, bV_r, bYes_r, asB_r, truth_b, truth_l, truth_t, truth_n, truth_i, bAnd_r, bOr_r, bNot_r, oAdd_i, oSub_i, oNeg_i, oLt_i, oLe_i, oGt_i, oGe_i, cInt_i, cInt_b, cLen_l, cLen_t, cList_l, cList_t, cMax2_i, cMin2_i, cAbs_i, isT_int_i, isT_bool_i, isT_bool_b, isT_int_b, isT_tuple_t, isT_list_l, oEq_i, oNe_i, oEq_b, oNe_b, oIsN_n, oNotN_n, oIsN_i, oNotN_i, oIsB_b, oNotB_b, sSeqn_r, sNext_r, sBrk_r, sCnt_r, sRetN_r, sExpr_r, sRet_r, sRetOwn_r, sIf_r, sSet_r, sOwn_r, sAsg_r, gV_r, gT_r, gsNil_r, gsCons_r, sFz_r, sAug_r, addI_r, subI_r, sSeq_r, sArgs_r, itemsOf_l, itemsOf_t, sMut_r, fApp_r, Option.bind_some, Option.map_some, List.length_cons, List.length_nil, Nat.zero_add, Nat.reduceAdd, Nat.reduceLT, Nat.reduceLeDiff, List.set_cons_zero, List.set_cons_succ, if_true, Bool.false_eq_true, if_false, Bool.not_true, Bool.not_false, decide_true, decide_false, reduceCtorEq, lT, lR, hdue, neT])]
  obtain ⟨y13, e13⟩ := intsGo (fun x13 => [.scr (.list (ns.map .int)), .val (.int N), .val (.int X), .val (.int s), .own (.list d4), s5, .val (.list d1), .val (.list d2), .val (.list d3), .val (.int rm), .val (.int fr), .val HD, .pin (.list d5), x13, .un, .un, .un, .un]) (fun _ _ => rfl) (fun i => by
    have hi : F__law_is_integer [.int i] = some (.bool true) := is_integer_i _
    unfold L_law_2
    simp only [eK_r, eV_0, eV_s, eB_0v, eB_0b, eB_0p, eB_0o, eB_s, eP_0v, eP_0b, eP_s, eS_0, eS_s, getS_0, getS_s, aNil_r, aCons_r, eOp_r, eUn_r, eCall_r, eBm_r, eTup_r, eLst_r, eIf_r, eAnd_r, eOr_r, eNot_r, eIs_r, eChain_r, eSl_r, oNo_r, oSo_r, asI_r, bT_r, bV_r, bYes_r, asB_r, truth_b, truth_l, truth_t, truth_n, truth_i, bAnd_r, bOr_r, bNot_r, oAdd_i, oSub_i, oNeg_i, oLt_i, oLe_i, oGt_i, oGe_i, cInt_i, cInt_b, cLen_l, cLen_t, cList_l, cList_t, cMax2_i, cMin2_i, cAbs_i, isT_int_i, isT_bool_i, isT_bool_b, isT_int_b, isT_tuple_t, isT_list_l, oEq_i, oNe_i, oEq_b, oNe_b, oIsN_n, oNotN_n, oIsN_i, oNotN_i, oIsB_b, oNotB_b, sSeqn_r, sNext_r, sBrk_r, sCnt_r, sRetN_r, sExpr_r, sRet_r, sRetOwn_r, sIf_r, sSet_r, sOwn_r, sAsg_r, gV_r, gT_r, gsNil_r, gsCons_r, sFz_r, sAug_r, addI_r, subI_r, sSeq_r, sArgs_r, itemsOf_l, itemsOf_t, sMut_r, fApp_r, Option.bind_some, Option.map_some, List.length_cons, List.length_nil, Nat.zero_add, Nat.reduceAdd, Nat.reduceLT, Nat.reduceLeDiff, List.set_cons_zero, List.set_cons_succ, if_true, Bool.false_eq_true, if_false, Bool.not_true, Bool.not_false, decide_true, decide_false, reduceCtorEq, hi]) xs .un
  rw [← h5] at e13
  rw [seq_nx (sForOwn_eq (ds := d5) (ρ' := [.scr (.list (ns.map .int)), .val (.int N), .val (.int X), .val (.int s), .own (.list d4), s5, .val (.list d1), .val (.list d2), .val (.list d3), .val (.int rm), .val (.int fr), .val HD, .pin (.list d5), y13, .un, .un, .un, .un]) rfl e13 rfl)]
  show sSeqn _ _ (R38 ns N X s (.list d4) s5 (.list d1) (.list d2) (.list d3) (.val (.int rm)) (.val (.int fr)) (.val HD) (.own (.list d5)) y13 .un .un .un) = _
  have h14 : lcGo (gV 15) bYes (eOp oSub (eOp oIx (eB 6) (eB 15)) (eOp oIx (eB 12) (eB 15))) (R38 ns N X s (.list d4) s5 (.list d1) (.list d2) (.list d3) (.val (.int rm)) (.val (.int fr)) (.val HD) (.own (.list d5)) y13 .un .un .un) (rangeD 0 n) = some d6 := by
    have h1 := lcGo_map (ρ := R38 ns N X s (.list d4) s5 (.list d1) (.list d2) (.list d3) (.val (.int rm)) (.val (.int fr)) (.val HD) (.own (.list d5)) y13 .un .un .un) (g := gV 15) (t := bYes) (e := eOp oSub (eOp oIx (eB 6) (eB 15)) (eOp oIx (eB 12) (eB 15))) (fun i : Nat => PyData.int (i : Int)) (fun i : Nat => (d6[i]?).getD .none) (List.range n) fun i hi => by
      obtain ⟨gx, gb, gl, gw, row, v1, v2, v3, v4, v5, v10, v6, v7, v8, v9⟩ := hgain i (List.mem_range.mp hi)
      refine ⟨R38 ns N X s (.list d4) s5 (.list d1) (.list d2) (.list d3) (.val (.int rm)) (.val (.int fr)) (.val HD) (.own (.list d5)) y13 .un (.val (.int (i : Nat))) .un, rfl, rfl, ?_⟩
      rw [v9]
      simp only [eK_r, eV_0, eV_s, eB_0v, eB_0b, eB_0p, eB_0o, eB_s, eP_0v, eP_0b, eP_s, eS_0, eS_s, getS_0, getS_s, aNil_r, aCons_r, eOp_r, eUn_r, eCall_r, eBm_r, eTup_r, eLst_r, eIf_r, eAnd_r, eOr_r, eNot_r, eIs_r, eChain_r, eSl_r, oNo_r, oSo_r, asI_r, bT_r, bV_r, bYes_r, asB_r, truth_b, truth_l, truth_t, truth_n, truth_i, bAnd_r, bOr_r, bNot_r, oAdd_i, oSub_i, oNeg_i, oLt_i, oLe_i, oGt_i, oGe_i, cInt_i, cInt_b, cLen_l, cLen_t, cList_l, cList_t, cMax2_i, cMin2_i, cAbs_i, isT_int_i, isT_bool_i, isT_bool_b, isT_int_b, isT_tuple_t, isT_list_l, oEq_i, oNe_i, oEq_b, oNe_b, oIsN_n, oNotN_n, oIsN_i, oNotN_i, oIsB_b, oNotB_b, sSeqn_r, sNext_r, sBrk_r, sCnt_r, sRetN_r, sExpr_r, sRet_r, sRetOwn_r, sIf_r, sSet_r, sOwn_r, sAsg_r, gV_r, gT_r, gsNil_r, gsCons_r, sFz_r, sAug_r, addI_r, subI_r, sSeq_r, sArgs_r, itemsOf_l, itemsOf_t, sMut_r, fApp_r, Option.bind_some, Option.map_some, List.length_cons, List.length_nil, Nat.zero_add, Nat.reduceAdd, Nat.reduceLT, Nat.reduceLeDiff, List.set_cons_zero, List.set_cons_succ, if_true, Bool.false_eq_true, if_false, Bool.not_true, Bool.not_false, decide_true, decide_false, reduceCtorEq, v2, v3]
      rfl
    rw [rangeD0, h1]
    refine congrArg some ?_
    apply List.ext_getElem?
    intro i
    rw [List.getElem?_map]
    by_cases hi : i < n
    · rw [List.getElem?_range hi]
      obtain ⟨gx, gb, gl, gw, row, v1, v2, v3, v4, v5, v10, v6, v7, v8, v9⟩ := hgain i hi
      rw [Option.map_some, v9]; rfl
    · rw [List.getElem?_eq_none (by rw [List.length_range]; omega), List.getElem?_eq_none (by omega)]; rfl
  rw [seq_nx (sSet_eq (eLc_eq (ds := rangeD 0 n) (sArgs_eq (ds := [.int (n : Nat)]) (by simp only [eK_r, eV_0, eV_s, eB_0v, eB_0b, eB_0p, eB_0o, eB_s, eP_0v, eP_0b, eP_s, eS_0, eS_s, getS_0, getS_s, aNil_r, aCons_r, eOp_r, eUn_r, eCall_r, eBm_r, eTup_r, eLst_r, eIf_r, eAnd_r, eOr_r, eNot_r, eIs_r, eChain_r, eSl_r, oNo_r, oSo_r, asI_r, bT_r, bV_r, bYes_r, asB_r, truth_b, truth_l, truth_t, truth_n, truth_i, bAnd_r, bOr_r, bNot_r, oAdd_i, oSub_i, oNeg_i, oLt_i, oLe_i, oGt_i, oGe_i, cInt_i, cInt_b, cLen_l, cLen_t, cList_l, cList_t, cMax2_i, cMin2_i, cAbs_i, isT_int_i, isT_bool_i, isT_bool_b, isT_int_b, isT_tuple_t, isT_list_l, oEq_i, oNe_i, oEq_b, oNe_b, oIsN_n, oNotN_n, oIsN_i, oNotN_i, oIsB_b, oNotB_b, sSeqn_r, sNext_r, sBrk_r, sCnt_r, sRetN_r, sExpr_r, sRet_r, sRetOwn_r, sIf_r, sSet_r, sOwn_r, sAsg_r, gV_r, gT_r, gsNil_r, gsCons_r, sFz_r, sAug_r, addI_r, subI_r, sSeq_r, sArgs_r, itemsOf_l, itemsOf_t, sMut_r, fApp_r, Option.bind_some, Option.map_some, List.length_cons, List.length_nil, Nat.zero_add, Nat.reduceAdd, Nat.reduceLT, Nat.reduceLeDiff, List.set_cons_zero, List.set_cons_succ, if_true, Bool.false_eq_true, if_false, Bool.not_true, Bool.not_false, decide_true, decide_false, reduceCtorEq, lR]) hr) h14 (by omega)) (by simp))]
  show sSeqn _ _ (R38 ns N X s (.list d4) s5 (.list d1) (.list d2) (.list d3) (.val (.int rm)) (.val (.int fr)) (.val HD) (.own (.list d5)) y13 (.val (.list d6)) .un .un) = _
  rw [seq_nx (ρ' := R38 ns N X s (.list d4) s5 (.list d1) (.list d2) (.list d3) (.val (.int rm)) (.val (.int fr)) (.val HD) (.own (.list d5)) y13 (.val (.list d6)) .un .un) (by simp only [eK_r, eV_0, eV_s, eB_0v, eB_0b, eB_0p, eB_0o, eB_s, eP_0v, eP_0b, eP_s, eS_0, eS_s, getS_0, getS_s, aNil_r, aCons_r, eOp_r, eUn_r, eCall_r, eBm_r, eTup_r, eLst_r, eIf_r, eAnd_r, eOr_r, eNot_r, eIs_r, eChain_r, eSl_r, oNo_r, oSo_r, asI_r, bT_r, bV_r, bYes_r, asB_r, truth_b, truth_l, truth_t, truth_n, truth_i, bAnd_r, bOr_r, bNot_r, oAdd_i, oSub_i, oNeg_i, oLt_i, oLe_i, oGt_i, oGe_i, cInt_i, cInt_b, cLen_l, cLen_t, cList_l, cList_t, cMax2_i, cMin2_i, cAbs_i, isT_int_i, isT_bool_i, isT_bool_b, isT_int_b, isT_tuple_t, isT_list_l, oEq_i, oNe_i, oEq_b, oNe_b, oIsN_n, oNotN_n, oIsN_i, oNotN_i, oIsB_b, oNotB_b, sSeqn_r, sNext_r, sBrk_r, sCnt_r, sRetN_r, sExpr_r, sRet_r, sRetOwn_r, sIf_r, sSet_r, sOwn_r, sAsg_r, gV_r, gT_r, gsNil_r, gsCons_r, sFz_r, sAug_r, addI_r, subI_r, sSeq_r, sArgs_r, itemsOf_l, itemsOf_t, sMut_r, fApp_r, Option.bind_some, Option.map_some, List.length_cons, List.length_nil, Nat.zero_add, Nat.reduceAdd, Nat.reduceLT, Nat.reduceLeDiff, List.set_cons_zero, List.set_cons_succ, if_true, Bool.false_eq_true, if_false, Bool.not_true, Bool.not_false, decide_true, decide_false, reduceCtorEq, sG])]
  obtain ⟨ρ', e15, t15, rfl⟩ := for_rng (g := gV 15) (b := L_law_3) (ρ := R38 ns N X s (.list d4) s5 (.list d1) (.list d2) (.list d3) (.val (.int rm)) (.val (.int fr)) (.val HD) (.own (.list d5)) y13 (.val (.list d6)) .un .un) 0 n (fun i ρ => ∃ t15, ρ = R38 ns N X s (.list d4) s5 (.list d1) (.list d2) (.list d3) (.val (.int rm)) (.val (.int fr)) (.val HD) (.own (.list d5)) y13 (.val (.list d6)) t15 .un) ⟨_, rfl⟩ (by
    rintro i ρ hi ⟨t15, rfl⟩
    rw [Int.zero_add]
    obtain ⟨gx, gb, gl, gw, row, v1, v2, v3, v4, v5, v10, v6, v7, v8, v9⟩ := hgain i hi
    refine ⟨_, R38 ns N X s (.list d4) s5 (.list d1) (.list d2) (.list d3) (.val (.int rm)) (.val (.int fr)) (.val HD) (.own (.list d5)) y13 (.val (.list d6)) (.val (.int (i : Nat))) .un, rfl, ?_, _, rfl⟩
    show L_law_3 (R38 ns N X s (.list d4) s5 (.list d1) (.list d2) (.list d3) (.val (.int rm)) (.val (.int fr)) (.val HD) (.own (.list d5)) y13 (.val (.list d6)) (.val (.int (i : Nat))) .un) = _
    have z1 : (gb - gx < 0) = False := by simp; omega
    have z2 : (gx < gl) = False := by simp; omega
    unfold L_law_3
    by_cases c : gw = 0
    · have z3 : gb - gx = 0 := by have := v8 c; omega
      simp only [eK_r, eV_0, eV_s, eB_0v, eB_0b, eB_0p, eB_0o, eB_s, eP_0v, eP_0b, eP_s, eS_0, eS_s, getS_0, getS_s, aNil_r, aCons_r, eOp_r, eUn_r, eCall_r, eBm_r, eTup_r, eLst_r, eIf_r, eAnd_r, eOr_r, eNot_r, eIs_r, eChain_r, eSl_r, oNo_r, oSo_r, asI_r, bT_r, bV_r, bYes_r, asB_r, truth_b, truth_l, truth_t, truth_n, truth_i, bAnd_r, bOr_r, bNot_r, oAdd_i, oSub_i, oNeg_i, oLt_i, oLe_i, oGt_i, oGe_i, cInt_i, cInt_b, cLen_l, cLen_t, cList_l, cList_t, cMax2_i, cMin2_i, cAbs_i, isT_int_i, isT_bool_i, isT_bool_b, isT_int_b, isT_tuple_t, isT_list_l, oEq_i, oNe_i, oEq_b, oNe_b, oIsN_n, oNotN_n, oIsN_i, oNotN_i, oIsB_b, oNotB_b, sSeqn_r, sNext_r, sBrk_r, sCnt_r, sRetN_r, sExpr_r, sRet_r, sRetOwn_r, sIf_r, sSet_r, sOwn_r, sAsg_r, gV_r, gT_r, gsNil_r, gsCons_r, sFz_r, sAug_r, addI_r, subI_r, sSeq_r, sArgs_r, itemsOf_l, itemsOf_t, sMut_r, fApp_r, Option.bind_some, Option.map_some, List.length_cons, List.length_nil, Nat.zero_add, Nat.reduceAdd, Nat.reduceLT, Nat.reduceLeDiff, List.set_cons_zero, List.set_cons_succ, if_true, Bool.false_eq_true, if_false, Bool.not_true, Bool.not_false, decide_true, decide_false, reduceCtorEq, v1, v2, v4, v5, v10, z1, z2, c, z3, show ((0 : Int) < 0) = False by simp]
    · simp only [eK_r, eV_0, eV_s, eB_0v, eB_0b, eB_0p, eB_0o, eB_s, eP_0v, eP_0b, eP_s, eS_0, eS_s, getS_0, getS_s, aNil_r, aCons_r, eOp_r, eUn_r, eCall_r, eBm_r, eTup_r, eLst_r, eIf_r, eAnd_r, eOr_r, eNot_r, eIs_r, eChain_r, eSl_r, oNo_r, oSo_r, asI_r, bT_r, bV_r, bYes_r, asB_r, truth_b, truth_l, truth_t, truth_n, truth_i, bAnd_r, bOr_r, bNot_r, oAdd_i, oSub_i, oNeg_i, oLt_i, oLe_i, oGt_i, oGe_i, cInt_i, cInt_b, cLen_l, cLen_t, cList_l, cList_t, cMax2_i, cMin2_i, cAbs_i, isT_int_i, isT_bool_i, isT_bool_b, isT_int_b, isT_tuple_t, isT_list_l, oEq_i, oNe_i, oEq_b, oNe_b, oIsN_n, oNotN_n, oIsN_i, oNotN_i, oIsB_b, oNotB_b, sSeqn_r, sNext_r, sBrk_r, sCnt_r, sRetN_r, sExpr_r, sRet_r, sRetOwn_r, sIf_r, sSet_r, sOwn_r, sAsg_r, gV_r, gT_r, gsNil_r, gsCons_r, sFz_r, sAug_r, addI_r, subI_r, sSeq_r, sArgs_r, itemsOf_l, itemsOf_t, sMut_r, fApp_r, Option.bind_some, Option.map_some, List.length_cons, List.length_nil, Nat.zero_add, Nat.reduceAdd, Nat.reduceLT, Nat.reduceLeDiff, List.set_cons_zero, List.set_cons_succ, if_true, Bool.false_eq_true, if_false, Bool.not_true, Bool.not_false, decide_true, decide_false, reduceCtorEq, v1, v2, v4, v5, v10, z1, z2, c])
  rw [seq_nx ((sFor_eq (sArgs_eq (ds := [.int (n : Nat)]) (by simp only [eK_r, eV_0, eV_s, eB_0v, eB_0b, eB_0p, eB_0o, eB_s, eP_0v, eP_0b, eP_s, eS_0, eS_s, getS_0, getS_s, aNil_r, aCons_r, eOp_r, eUn_r, eCall_r, eBm_r, eTup_r, eLst_r, eIf_r, eAnd_r, eOr_r, eNot_r, eIs_r, eChain_r, eSl_r, oNo_r, oSo_r, asI_r, bT_r, bV_r, bYes_r, asB_r, truth_b, truth_l, truth_t, truth_n, truth_i, bAnd_r, bOr_r, bNot_r, oAdd_i, oSub_i, oNeg_i, oLt_i, oLe_i, oGt_i, oGe_i, cInt_i, cInt_b, cLen_l, cLen_t, cList_l, cList_t, cMax2_i, cMin2_i, cAbs_i, isT_int_i, isT_bool_i, isT_bool_b, isT_int_b, isT_tuple_t, isT_list_l, oEq_i, oNe_i, oEq_b, oNe_b, oIsN_n, oNotN_n, oIsN_i, oNotN_i, oIsB_b, oNotB_b, sSeqn_r, sNext_r, sBrk_r, sCnt_r, sRetN_r, sExpr_r, sRet_r, sRetOwn_r, sIf_r, sSet_r, sOwn_r, sAsg_r, gV_r, gT_r, gsNil_r, gsCons_r, sFz_r, sAug_r, addI_r, subI_r, sSeq_r, sArgs_r, itemsOf_l, itemsOf_t, sMut_r, fApp_r, Option.bind_some, Option.map_some, List.length_cons, List.length_nil, Nat.zero_add, Nat.reduceAdd, Nat.reduceLT, Nat.reduceLeDiff, List.set_cons_zero, List.set_cons_succ, if_true, Bool.false_eq_true, if_false, Bool.not_true, Bool.not_false, decide_true, decide_false, reduceCtorEq, lR]) hr)).trans e15)]
  rw [seq_nx (ρ' := R38 ns N X s (.list d4) s5 (.list d1) (.list d2) (.list d3) (.val (.int rm)) (.val (.int fr)) (.val HD) (.own (.list d5)) y13 (.val (.list d6)) t15 (.val (.list d5))) (by simp only [eK_r, eV_0, eV_s, eB_0v, eB_0b, eB_0p, eB_0o, eB_s, eP_0v, eP_0b, eP_s, eS_0, eS_s, getS_0, getS_s, aNil_r, aCons_r, eOp_r, eUn_r, eCall_r, eBm_r, eTup_r, eLst_r, eIf_r, eAnd_r, eOr_r, eNot_r, eIs_r, eChain_r, eSl_r, oNo_r, oSo_r, asI_r, bT_r, bV_r, bYes_r, asB_r, truth_b, truth_l, truth_t, truth_n, truth_i, bAnd_r, bOr_r, bNot_r, oAdd_i, oSub_i, oNeg_i, oLt_i, oLe_i, oGt_i, oGe_i, cInt_i, cInt_b, cLen_l, cLen_t, cList_l, cList_t, cMax2_i, cMin2_i, cAbs_i, isT_int_i, isT_bool_i, isT_bool_b, isT_int_b, isT_tuple_t, isT_list_l, oEq_i, oNe_i, oEq_b, oNe_b, oIsN_n, oNotN_n, oIsN_i, oNotN_i, oIsB_b, oNotB_b, sSeqn_r, sNext_r, sBrk_r, sCnt_r, sRetN_r, sExpr_r, sRet_r, sRetOwn_r, sIf_r, sSet_r, sOwn_r, sAsg_r, gV_r, gT_r, gsNil_r, gsCons_r, sFz_r, sAug_r, addI_r, subI_r, sSeq_r, sArgs_r, itemsOf_l, itemsOf_t, sMut_r, fApp_r, Option.bind_some, Option.map_some, List.length_cons, List.length_nil, Nat.zero_add, Nat.reduceAdd, Nat.reduceLT, Nat.reduceLeDiff, List.set_cons_zero, List.set_cons_succ, if_true, Bool.false_eq_true, if_false, Bool.not_true, Bool.not_false, decide_true, decide_false, reduceCtorEq])]
  rw [seq_nx (ρ' := R38 ns N X s (.list d4) s5 (.list d1) (.list d2) (.list d3) (.val (.int rm)) (.val (.int fr)) (.val HD) (.own (.list (d5 ++ [.int (-1)]))) y13 (.val (.list d6)) t15 (.val (.list d5))) (by simp only [eK_r, eV_0, eV_s, eB_0v, eB_0b, eB_0p, eB_0o, eB_s, eP_0v, eP_0b, eP_s, eS_0, eS_s, getS_0, getS_s, aNil_r, aCons_r, eOp_r, eUn_r, eCall_r, eBm_r, eTup_r, eLst_r, eIf_r, eAnd_r, eOr_r, eNot_r, eIs_r, eChain_r, eSl_r, oNo_r, oSo_r, asI_r, bT_r, bV_r, bYes_r, asB_r, truth_b, truth_l, truth_t, truth_n, truth_i, bAnd_r, bOr_r, bNot_r, oAdd_i, oSub_i, oNeg_i, oLt_i, oLe_i, oGt_i, oGe_i, cInt_i, cInt_b, cLen_l, cLen_t, cList_l, cList_t, cMax2_i, cMin2_i, cAbs_i, isT_int_i, isT_bool_i, isT_bool_b, isT_int_b, isT_tuple_t, isT_list_l, oEq_i, oNe_i, oEq_b, oNe_b, oIsN_n, oNotN_n, oIsN_i, oNotN_i, oIsB_b, oNotB_b, sSeqn_r, sNext_r, sBrk_r, sCnt_r, sRetN_r, sExpr_r, sRet_r, sRetOwn_r, sIf_r, sSet_r, sOwn_r, sAsg_r, gV_r, gT_r, gsNil_r, gsCons_r, sFz_r, sAug_r, addI_r, subI_r, sSeq_r, sArgs_r, itemsOf_l, itemsOf_t, sMut_r, fApp_r, Option.bind_some, Option.map_some, List.length_cons, List.length_nil, Nat.zero_add, Nat.reduceAdd, Nat.reduceLT, Nat.reduceLeDiff, List.set_cons_zero, List.set_cons_succ, if_true, Bool.false_eq_true, if_false, Bool.not_true, Bool.not_false, decide_true, decide_false, reduceCtorEq, lt5])]
  rw [seq_nx (ρ' := R38 ns N X s (.list d4) s5 (.list d1) (.list d2) (.list d3) (.val (.int rm)) (.val (.int fr)) (.val HD) (.own (.list (d5 ++ [.int (-1)]))) y13 (.val (.list d6)) t15 (.val (.list d5))) (by simp only [eK_r, eV_0, eV_s, eB_0v, eB_0b, eB_0p, eB_0o, eB_s, eP_0v, eP_0b, eP_s, eS_0, eS_s, getS_0, getS_s, aNil_r, aCons_r, eOp_r, eUn_r, eCall_r, eBm_r, eTup_r, eLst_r, eIf_r, eAnd_r, eOr_r, eNot_r, eIs_r, eChain_r, eSl_r, oNo_r, oSo_r, asI_r, bT_r, bV_r, bYes_r, asB_r, truth_b, truth_l, truth_t, truth_n, truth_i, bAnd_r, bOr_r, bNot_r, oAdd_i, oSub_i, oNeg_i, oLt_i, oLe_i, oGt_i, oGe_i, cInt_i, cInt_b, cLen_l, cLen_t, cList_l, cList_t, cMax2_i, cMin2_i, cAbs_i, isT_int_i, isT_bool_i, isT_bool_b, isT_int_b, isT_tuple_t, isT_list_l, oEq_i, oNe_i, oEq_b, oNe_b, oIsN_n, oNotN_n, oIsN_i, oNotN_i, oIsB_b, oNotB_b, sSeqn_r, sNext_r, sBrk_r, sCnt_r, sRetN_r, sExpr_r, sRet_r, sRetOwn_r, sIf_r, sSet_r, sOwn_r, sAsg_r, gV_r, gT_r, gsNil_r, gsCons_r, sFz_r, sAug_r, addI_r, subI_r, sSeq_r, sArgs_r, itemsOf_l, itemsOf_t, sMut_r, fApp_r, Option.bind_some, Option.map_some, List.length_cons, List.length_nil, Nat.zero_add, Nat.reduceAdd, Nat.reduceLT, Nat.reduceLeDiff, List.set_cons_zero, List.set_cons_succ, if_true, Bool.false_eq_true, if_false, Bool.not_true, Bool.not_false, decide_true, decide_false, reduceCtorEq, x0, x1, x2, g1, neT])]
  rw [seq_nx (ρ' := R38 ns N X s (.list d4) s5 (.list d1) (.list d2) (.list d3) (.val (.int rm)) (.val (.int fr)) (.val HD) (.own (.list (d5 ++ [.int (-1)]))) y13 (.val (.list d6)) t15 (.val (.list d5))) (by simp only [eK_r, eV_0, eV_s, eB_0v, eB_0b, eB_0p, eB_0o, eB_s, eP_0v, eP_0b, eP_s, eS_0, eS_s, getS_0, getS_s, aNil_r, aCons_r, eOp_r, eUn_r, eCall_r, eBm_r, eTup_r, eLst_r, eIf_r, eAnd_r, eOr_r, eNot_r, eIs_r, eChain_r, eSl_r, oNo_r, oSo_r, asI_r, bT_r, bV_r, bYes_r, asB_r, truth_b, truth_l, truth_t, truth_n, truth_i, bAnd_r, bOr_r, bNot_r, oAdd_i, oSub_i, oNeg_i, oLt_i, oLe_i, oGt_i, oGe_i, cInt_i, cInt_b, cLen_l, cLen_t, cList_l, cList_t, cMax2_i, cMin2_i, cAbs_i, isT_int_i, isT_bool_i, isT_bool_b, isT_int_b, isT_tuple_t, isT_list_l, oEq_i, oNe_i, oEq_b, oNe_b, oIsN_n, oNotN_n, oIsN_i, oNotN_i, oIsB_b, oNotB_b, sSeqn_r, sNext_r, sBrk_r, sCnt_r, sRetN_r, sExpr_r, sRet_r, sRetOwn_r, sIf_r, sSet_r, sOwn_r, sAsg_r, gV_r, gT_r, gsNil_r, gsCons_r, sFz_r, sAug_r, addI_r, subI_r, sSeq_r, sArgs_r, itemsOf_l, itemsOf_t, sMut_r, fApp_r, Option.bind_some, Option.map_some, List.length_cons, List.length_nil, Nat.zero_add, Nat.reduceAdd, Nat.reduceLT, Nat.reduceLeDiff, List.set_cons_zero, List.set_cons_succ, if_true, Bool.false_eq_true, if_false, Bool.not_true, Bool.not_false, decide_true, decide_false, reduceCtorEq, x0, x1, x2, g2, sT, sB, hS])]
  rw [sRet_r, eAnd_r, eOp_r, hlist]
  simp only [eK_r, eV_0, eV_s, eB_0v, eB_0b, eB_0p, eB_0o, eB_s, eP_0v, eP_0b, eP_s, eS_0, eS_s, getS_0, getS_s, aNil_r, aCons_r, eOp_r, eUn_r, eCall_r, eBm_r, eTup_r, eLst_r, eIf_r, eAnd_r, eOr_r, eNot_r, eIs_r, eChain_r, eSl_r, oNo_r, oSo_r, asI_r, bT_r, bV_r, bYes_r, asB_r, truth_b, truth_l, truth_t, truth_n, truth_i, bAnd_r, bOr_r, bNot_r, oAdd_i, oSub_i, oNeg_i, oLt_i, oLe_i, oGt_i, oGe_i, cInt_i, cInt_b, cLen_l, cLen_t, cList_l, cList_t, cMax2_i, cMin2_i, cAbs_i, isT_int_i, isT_bool_i, isT_bool_b, isT_int_b, isT_tuple_t, isT_list_l, oEq_i, oNe_i, oEq_b, oNe_b, oIsN_n, oNotN_n, oIsN_i, oNotN_i, oIsB_b, oNotB_b, sSeqn_r, sNext_r, sBrk_r, sCnt_r, sRetN_r, sExpr_r, sRet_r, sRetOwn_r, sIf_r, sSet_r, sOwn_r, sAsg_r, gV_r, gT_r, gsNil_r, gsCons_r, sFz_r, sAug_r, addI_r, subI_r, sSeq_r, sArgs_r, itemsOf_l, itemsOf_t, sMut_r, fApp_r, Option.bind_some, Option.map_some, List.length_cons, List.length_nil, Nat.zero_add, Nat.reduceAdd, Nat.reduceLT, Nat.reduceLeDiff, List.set_cons_zero, List.set_cons_succ, if_true, Bool.false_eq_true, if_false, Bool.not_true, Bool.not_false, decide_true, decide_false, reduceCtorEq, eq3, hev]
theorem out_props (f : Int) (hf : 0 ≤ f) (R : List (Int × Int × Int)) (hl : R.length ≤ 1000) (h : ∀ r ∈ R, RowOk r) : Ends f (outG f R) ∧ (outG f R).map core = R ∧ (outG f R).length = R.length := by
  have hn := nact_len (R.map gi0)
  rw [List.length_map] at hn
  obtain ⟨h1, h2⟩ := grw_ends (f0 := f) (R.length + 1) f (R.map gi0) (goes0 f hf R h) (by omega)
  have hcore : (R.map gi0).map core = R := by
    rw [List.map_map]
    have : R.map (core ∘ gi0) = R.map id := List.map_congr_left fun r _ => rfl
    rw [this, List.map_id]
  rw [hcore] at h2
  refine ⟨h1, h2, ?_⟩
  have := congrArg List.length h2
  rw [List.length_map] at this
  exact this
theorem sum_sub {α : Type} (f g : α → Int) : ∀ l : List α, (l.map fun a => f a - g a).sum = (l.map f).sum - (l.map g).sum
  | [] => by simp
  | a :: l => by
    have := sum_sub f g l
    simp only [List.map_cons, List.sum_cons]; omega
theorem filt_sum (R : List (Int × Int × Int)) : ((R.filter fun r => decide (0 < r.2.1)).map fun r => r.2.2 - r.1).sum = (R.map fun r => if 0 < r.2.1 then r.2.2 - r.1 else 0).sum := by
  induction R with
  | nil => rfl
  | cons r R ih =>
    rw [List.filter_cons]
    by_cases c : 0 < r.2.1
    · rw [if_pos (by simpa using c), List.map_cons, List.map_cons, List.sum_cons, List.sum_cons, ih, if_pos c]
    · rw [if_neg (by simpa using c), List.map_cons, List.sum_cons, ih, if_neg c, Int.zero_add]
theorem clean_ints3 (a b c : List Int) : clean 9 (.list [.list (a.map .int), .list (b.map .int), .list (c.map .int)]) = true := by
  have h : ∀ (n : Nat) (l : List Int), cleanA n (l.map PyData.int) = true := fun n l => cleanA_map (fun a => rfl) l
  simp [clean, cleanA, h]
theorem filt_sumQ (R : List Q4) : ((R.filter fun r => decide (0 < r.2.1)).map fun r => r.1 - r.2.2.1).sum = (R.map fun r => if 0 < r.2.1 then r.1 - r.2.2.1 else 0).sum := by
  induction R with
  | nil => rfl
  | cons r R ih =>
    rw [List.filter_cons]
    by_cases c : 0 < r.2.1
    · rw [if_pos (by simpa using c), List.map_cons, List.map_cons, List.sum_cons, List.sum_cons, ih, if_pos c]
    · rw [if_neg (by simpa using c), List.map_cons, List.sum_cons, ih, if_neg c, Int.zero_add]
theorem law_true (ns : List Int) (hl : ns.length ≤ 63) (hb : ∀ z ∈ ns, Builtin.Int.intBits z ≤ 1048576) : F_law [.list (ns.map .int)] = some (.bool true) := by
  refine box_rt rfl ?_
  have c0 : F__law_cell [.list (ns.map .int), .int 0] = _ := cell_eq ns 0
  have c1 : F__law_cell [.list (ns.map .int), .int 1] = _ := cell_eq ns 1
  have hn := srcV_b (cellV ns 0)
  have hx := srcV_b (cellV ns 1)
  have s0 := source_eq (cellV ns 0)
  have s1 := source_eq (cellV ns 1)
  generalize srcV (cellV ns 0) = N at *
  generalize srcV (cellV ns 1) = X at *
  obtain ⟨s, ms, es⟩ := pickI [101, 11, 1001, 1000000000] (i := N % 4) (by omega) (by simp; omega)
  have bs : 1 ≤ s ∧ s ≤ 1000000000 := by simp at ms; omega
  have es : oIx (.list [.int 101, .int 11, .int 1001, .int 1000000000]) (.int (N % 4)) = some (.int s) := es
  have m1 : oMod (.int N) (.int 4) = some (.int (N % 4)) := oMod_i (by omega)
  have m2 : oMod (.int X) (.int 10) = some (.int (X % 10)) := oMod_i (by omega)
  have le4 : 4 ≤ sizeLine := size_le (by decide)
  have ch : ∀ n, 0 ≤ n → ∃ r : Q4, F__law_child [.int n, .int s] = some (encQ r) ∧ QOk r := fun n h => child_ex n s h bs
  let chV : Int → Q4 := fun n => if h : 0 ≤ n then Classical.choose (ch n h) else (0, 0, 0, 0)
  have chS : ∀ n, 0 ≤ n → F__law_child [.int n, .int s] = some (encQ (chV n)) ∧ QOk (chV n) := fun n h => by
    have : chV n = Classical.choose (ch n h) := dif_pos h
    rw [this]; exact Classical.choose_spec (ch n h)
  have e1 : lcGo (gV 15) bYes (eCall F__law_child (aCons (eCall F__law_mixed (aCons (eOp oAdd (eB 2) (eOp oMulS (eK (.int 7919)) (eB 15))) aNil)) (aCons (eB 3) aNil))) [.scr (.list (ns.map .int)), .val (.int N), .val (.int X), .val (.int s), .un, .un, .un, .un, .un, .un, .un, .un, .un, .un, .un, .un, .un, .un] (rangeD 0 (X % 10).toNat) = some (((List.range (X % 10).toNat).map fun i : Nat => chV (mixV (X + 7919 * (i : Int)))).map encQ) := by
    rw [rangeD0, List.map_map (g := encQ)]
    exact lcGo_map (fun i : Nat => PyData.int (i : Int)) _ _ fun i _ => ⟨_, rfl, rfl, by
      have z1 : oMulS (.int 7919) (.int (i : Nat)) = some (.int (7919 * (i : Int))) := oMul_l (by omega) (by omega)
      have z2 := mixed_eq (X + 7919 * (i : Int))
      have z3 := (chS (mixV (X + 7919 * (i : Int))) (mixV_b _).1).1
      show _ = some (encQ (chV (mixV (X + 7919 * (i : Int)))))
      generalize encQ (chV (mixV (X + 7919 * (i : Int)))) = rr at *
      generalize 7919 * (i : Int) = u at *
      simp only [eK_r, eV_0, eV_s, eB_0v, eB_0b, eB_0p, eB_0o, eB_s, eP_0v, eP_0b, eP_s, eS_0, eS_s, getS_0, getS_s, aNil_r, aCons_r, eOp_r, eUn_r, eCall_r, eBm_r, eTup_r, eLst_r, eIf_r, eAnd_r, eOr_r, eNot_r, eIs_r, eChain_r, eSl_r, oNo_r, oSo_r, asI_r, bT_r, bV_r, bYes_r, asB_r, truth_b, truth_l, truth_t, truth_n, truth_i, bAnd_r, bOr_r, bNot_r, oAdd_i, oSub_i, oNeg_i, oLt_i, oLe_i, oGt_i, oGe_i, cInt_i, cInt_b, cLen_l, cLen_t, cList_l, cList_t, cMax2_i, cMin2_i, cAbs_i, isT_int_i, isT_bool_i, isT_bool_b, isT_int_b, isT_tuple_t, isT_list_l, oEq_i, oNe_i, oEq_b, oNe_b, oIsN_n, oNotN_n, oIsN_i, oNotN_i, oIsB_b, oNotB_b, sSeqn_r, sNext_r, sBrk_r, sCnt_r, sRetN_r, sExpr_r, sRet_r, sRetOwn_r, sIf_r, sSet_r, sOwn_r, sAsg_r, gV_r, gT_r, gsNil_r, gsCons_r, sFz_r, sAug_r, addI_r, subI_r, sSeq_r, sArgs_r, itemsOf_l, itemsOf_t, sMut_r, fApp_r, Option.bind_some, Option.map_some, List.length_cons, List.length_nil, Nat.zero_add, Nat.reduceAdd, Nat.reduceLT, Nat.reduceLeDiff, List.set_cons_zero, List.set_cons_succ, if_true, Bool.false_eq_true, if_false, Bool.not_true, Bool.not_false, decide_true, decide_false, reduceCtorEq, z1, z2, z3]⟩
  generalize hI0 : (List.range (X % 10).toNat).map (fun i : Nat => chV (mixV (X + 7919 * (i : Int)))) = I0 at e1
  have l0 : I0.length ≤ 10 := by rw [← hI0, List.length_map, List.length_range]; omega
  have b0 : ∀ r ∈ I0, QOk r := fun r hr => by
    rw [← hI0] at hr
    obtain ⟨i, _, rfl⟩ := List.mem_map.mp hr
    exact (chS _ (mixV_b _).1).2
  generalize hm : cutG ns (some 2) (some 9) = ks
  have lk : ks.length ≤ 7 := by rw [← hm]; exact cutG_len ns (i := 2) (j := 9) (by decide) (by decide)
  have cd : oSlL (.list (ns.map PyData.int)) (some 2) (some 9) = some (.list (ks.map PyData.int)) := by
    show some (PyData.list (cutD (ns.map PyData.int) (some 2) (some 9))) = _
    rw [cutD_map, hm]
  obtain ⟨ρ', e2, R, s5, rfl, b1, l1⟩ := for_lst PyData.int ks (g := gV 5) (b := L_law_1) (ρ := [.scr (.list (ns.map .int)), .val (.int N), .val (.int X), .val (.int s), .own (.list (I0.map encQ)), .un, .un, .un, .un, .un, .un, .un, .un, .un, .un, .un, .un, .un]) (fun i ρ => ∃ (R : List (Q4)) (s5 : Slot), ρ = [.scr (.list (ns.map .int)), .val (.int N), .val (.int X), .val (.int s), .own (.list (R.map encQ)), s5, .un, .un, .un, .un, .un, .un, .un, .un, .un, .un, .un, .un] ∧ (∀ r ∈ R, QOk r) ∧ R.length ≤ 10 + i) ⟨I0, .un, rfl, b0, l0⟩ (by
    rintro i c ρ hi ⟨R, s5, rfl, b1, l1⟩
    have hlt := (List.getElem?_eq_some_iff.mp hi).1
    have lt : (R.map encQ).length < sizeLine := by rw [List.length_map, sizeLine_eq]; omega
    obtain ⟨z1, z2⟩ := chS (srcV c) (srcV_b c)
    have z0 := source_eq c
    refine ⟨_, [.scr (.list (ns.map .int)), .val (.int N), .val (.int X), .val (.int s), .own (.list ((R ++ [chV (srcV c)]).map encQ)), .val (.int c), .un, .un, .un, .un, .un, .un, .un, .un, .un, .un, .un, .un], rfl, ?_, _, _, rfl, ?_, ?_⟩
    · show L_law_1 [.scr (.list (ns.map .int)), .val (.int N), .val (.int X), .val (.int s), .own (.list (R.map encQ)), .val (.int c), .un, .un, .un, .un, .un, .un, .un, .un, .un, .un, .un, .un] = _
      rw [List.map_append, List.map_cons, List.map_nil]
      generalize encQ (chV (srcV c)) = rr at *
      generalize R.map encQ = M at *
      unfold L_law_1
      simp only [eK_r, eV_0, eV_s, eB_0v, eB_0b, eB_0p, eB_0o, eB_s, eP_0v, eP_0b, eP_s, eS_0, eS_s, getS_0, getS_s, aNil_r, aCons_r, eOp_r, eUn_r, eCall_r, eBm_r, eTup_r, eLst_r, eIf_r, eAnd_r, eOr_r, eNot_r, eIs_r, eChain_r, eSl_r, oNo_r, oSo_r, asI_r, bT_r, bV_r, bYes_r, asB_r, truth_b, truth_l, truth_t, truth_n, truth_i, bAnd_r, bOr_r, bNot_r, oAdd_i, oSub_i, oNeg_i, oLt_i, oLe_i, oGt_i, oGe_i, cInt_i, cInt_b, cLen_l, cLen_t, cList_l, cList_t, cMax2_i, cMin2_i, cAbs_i, isT_int_i, isT_bool_i, isT_bool_b, isT_int_b, isT_tuple_t, isT_list_l, oEq_i, oNe_i, oEq_b, oNe_b, oIsN_n, oNotN_n, oIsN_i, oNotN_i, oIsB_b, oNotB_b, sSeqn_r, sNext_r, sBrk_r, sCnt_r, sRetN_r, sExpr_r, sRet_r, sRetOwn_r, sIf_r, sSet_r, sOwn_r, sAsg_r, gV_r, gT_r, gsNil_r, gsCons_r, sFz_r, sAug_r, addI_r, subI_r, sSeq_r, sArgs_r, itemsOf_l, itemsOf_t, sMut_r, fApp_r, Option.bind_some, Option.map_some, List.length_cons, List.length_nil, Nat.zero_add, Nat.reduceAdd, Nat.reduceLT, Nat.reduceLeDiff, List.set_cons_zero, List.set_cons_succ, if_true, Bool.false_eq_true, if_false, Bool.not_true, Bool.not_false, decide_true, decide_false, reduceCtorEq, z0, z1, lt]
    · intro r hr
      rcases List.mem_append.mp hr with hr | hr
      · exact b1 r hr
      · rw [List.mem_singleton.mp hr]; exact z2
    · rw [List.length_append, List.length_singleton]; omega)
  have hR : ∀ r ∈ R, QOk r := b1
  have lR : R.length ≤ 1000 := by omega
  have h6 : lcGo (gV 17) bYes (eOp oIx (eB 17) (eK (.int 0))) [.scr (.list (ns.map .int)), .val (.int N), .val (.int X), .val (.int s), .own (.list (R.map encQ)), s5, .un, .un, .un, .un, .un, .un, .un, .un, .un, .un, .un, .un] (R.map encQ) = some ((R.map (·.1)).map .int) := by
    refine lc_int encQ _ R fun r _ => ?_
    exact ⟨_, rfl, rfl, rfl⟩
  have h7 : lcGo (gV 17) bYes (eOp oIx (eB 17) (eK (.int 3))) [.scr (.list (ns.map .int)), .val (.int N), .val (.int X), .val (.int s), .own (.list (R.map encQ)), s5, .val (.list ((R.map (·.1)).map .int)), .un, .un, .un, .un, .un, .un, .un, .un, .un, .un, .un] (R.map encQ) = some ((R.map (·.2.2.2)).map .int) := by
    refine lc_int encQ _ R fun r _ => ?_
    exact ⟨_, rfl, rfl, rfl⟩
  have h8 : lcGo (gV 17) bYes (eOp oIx (eB 17) (eK (.int 2))) [.scr (.list (ns.map .int)), .val (.int N), .val (.int X), .val (.int s), .own (.list (R.map encQ)), s5, .val (.list ((R.map (·.1)).map .int)), .val (.list ((R.map (·.2.2.2)).map .int)), .un, .un, .un, .un, .un, .un, .un, .un, .un, .un] (R.map encQ) = some ((R.map (·.2.2.1)).map .int) := by
    refine lc_int encQ _ R fun r _ => ?_
    exact ⟨_, rfl, rfl, rfl⟩
  have h9 : lcGo (gV 17) (bT (eOp oGt (eOp oIx (eB 17) (eK (.int 1))) (eK (.int 0)))) (eOp oSub (eOp oIx (eB 17) (eK (.int 0))) (eOp oIx (eB 17) (eK (.int 2)))) (R38 ns N X s (.list (R.map encQ)) s5 (.list ((R.map (·.1)).map .int)) (.list ((R.map (·.2.2.2)).map .int)) (.list ((R.map (·.2.2.1)).map .int)) .un .un .un .un .un .un .un .un) (R.map encQ) = some (((R.filter fun r => decide (0 < r.2.1)).map fun r => r.1 - r.2.2.1).map .int) := by
    refine lcf_int encQ (fun r => r.1 - r.2.2.1) (fun r => decide (0 < r.2.1)) R fun r _ => ?_
    exact ⟨_, rfl, rfl, fun _ => rfl⟩
  have hroom : ((R.filter fun r => decide (0 < r.2.1)).map fun r => r.1 - r.2.2.1).sum = (R.map fun r => if 0 < r.2.1 then r.1 - r.2.2.1 else 0).sum := filt_sumQ R
  generalize hrm : (R.map fun r => if 0 < r.2.1 then r.1 - r.2.2.1 else 0).sum = rm at *
  have brm : 0 ≤ rm ∧ rm ≤ 1000000010 * 20 := by
    rw [← hrm]
    refine ⟨sum_nn _ _ fun r hr => ?_, ?_⟩
    · obtain ⟨k1, k2, k3, k4, k5, k6, k7⟩ := hR r hr
      split <;> omega
    · have h1 := sum_le (fun r : Q4 => if 0 < r.2.1 then r.1 - r.2.2.1 else 0) (fun _ => 1000000010) R fun r hr => by
        obtain ⟨k1, k2, k3, k4, k5, k6, k7⟩ := hR r hr
        show (if 0 < r.2.1 then r.1 - r.2.2.1 else 0) ≤ 1000000010
        split <;> omega
      have h2 : ∀ M : List (Q4), (M.map fun _ => (1000000010 : Int)).sum = 1000000010 * (M.length : Int) := fun M => by
        induction M with
        | nil => rfl
        | cons a M ih => simp only [List.map_cons, List.sum_cons, ih, List.length_cons]; omega
      have := h2 R
      omega
  -- what is dealt out
  have q1 : oFdiv (.int N) (.int 16) = some (.int (N / 16)) := oFdiv_i (by omega) (by omega)
  have q2 : oMod (.int (N / 16)) (.int (2 * rm + 2)) = some (.int (N / 16 % (2 * rm + 2))) := oMod_i (by omega)
  have q3 : oFdiv (.int N) (.int 4) = some (.int (N / 4)) := oFdiv_i (by omega) (by omega)
  have q4 : oMod (.int (N / 4)) (.int 4) = some (.int (N / 4 % 4)) := oMod_i (by omega)
  have q5 : oMulS (.int 2) (.int rm) = some (.int (2 * rm)) := oMul_l (by omega) (by omega)
  have bq : 0 ≤ N / 16 % (2 * rm + 2) ∧ N / 16 % (2 * rm + 2) < 2 * rm + 2 := ⟨Int.emod_nonneg _ (by omega), Int.emod_lt_of_pos _ (by omega)⟩
  generalize N / 16 % (2 * rm + 2) = qv at *
  obtain ⟨fv, mf, ef⟩ := pickI [rm, rm + 1, rm - 1, qv] (i := N / 4 % 4) (by omega) (by simp; omega)
  have ef : oIx (.list [.int rm, .int (rm + 1), .int (rm - 1), .int qv]) (.int (N / 4 % 4)) = some (.int fv) := ef
  have bf : fv ≤ 2 * rm + 2 := by simp at mf; omega
  have hfr : 1 ≤ max 1 fv ∧ max 1 fv ≤ 2 * rm + 2 := by omega
  generalize hfr2 : max 1 fv = fr at *
  have lRl : (R.map encQ).length = R.length := List.length_map ..
  unfold B_law
  rw [seq_nx (ρ' := [.scr (.list (ns.map .int)), .val (.int N), .un, .un, .un, .un, .un, .un, .un, .un, .un, .un, .un, .un, .un, .un, .un, .un]) (by simp [c0, s0])]
  rw [seq_nx (ρ' := [.scr (.list (ns.map .int)), .val (.int N), .val (.int X), .un, .un, .un, .un, .un, .un, .un, .un, .un, .un, .un, .un, .un, .un, .un]) (by simp [c1, s1])]
  rw [seq_nx (ρ' := [.scr (.list (ns.map .int)), .val (.int N), .val (.int X), .val (.int s), .un, .un, .un, .un, .un, .un, .un, .un, .un, .un, .un, .un, .un, .un]) (by simp only [eK_r, eV_0, eV_s, eB_0v, eB_0b, eB_0p, eB_0o, eB_s, eP_0v, eP_0b, eP_s, eS_0, eS_s, getS_0, getS_s, aNil_r, aCons_r, eOp_r, eUn_r, eCall_r, eBm_r, eTup_r, eLst_r, eIf_r, eAnd_r, eOr_r, eNot_r, eIs_r, eChain_r, eSl_r, oNo_r, oSo_r, asI_r, bT_r, bV_r, bYes_r, asB_r, truth_b, truth_l, truth_t, truth_n, truth_i, bAnd_r, bOr_r, bNot_r, oAdd_i, oSub_i, oNeg_i, oLt_i, oLe_i, oGt_i, oGe_i, cInt_i, cInt_b, cLen_l, cLen_t, cList_l, cList_t, cMax2_i, cMin2_i, cAbs_i, isT_int_i, isT_bool_i, isT_bool_b, isT_int_b, isT_tuple_t, isT_list_l, oEq_i, oNe_i, oEq_b, oNe_b, oIsN_n, oNotN_n, oIsN_i, oNotN_i, oIsB_b, oNotB_b, sSeqn_r, sNext_r, sBrk_r, sCnt_r, sRetN_r, sExpr_r, sRet_r, sRetOwn_r, sIf_r, sSet_r, sOwn_r, sAsg_r, gV_r, gT_r, gsNil_r, gsCons_r, sFz_r, sAug_r, addI_r, subI_r, sSeq_r, sArgs_r, itemsOf_l, itemsOf_t, sMut_r, fApp_r, Option.bind_some, Option.map_some, List.length_cons, List.length_nil, Nat.zero_add, Nat.reduceAdd, Nat.reduceLT, Nat.reduceLeDiff, List.set_cons_zero, List.set_cons_succ, if_true, Bool.false_eq_true, if_false, Bool.not_true, Bool.not_false, decide_true, decide_false, reduceCtorEq, oPow9, le4, m1, es])]
  have hr0 := rng1_n (X % 10).toNat (by omega)
  rw [show (((X % 10).toNat : Nat) : Int) = X % 10 by omega] at hr0
  rw [seq_nx (sOwn_eq (eLc_eq (ds := rangeD 0 (X % 10).toNat) (sArgs_eq (ds := [.int (X % 10)]) (by simp only [eK_r, eV_0, eV_s, eB_0v, eB_0b, eB_0p, eB_0o, eB_s, eP_0v, eP_0b, eP_s, eS_0, eS_s, getS_0, getS_s, aNil_r, aCons_r, eOp_r, eUn_r, eCall_r, eBm_r, eTup_r, eLst_r, eIf_r, eAnd_r, eOr_r, eNot_r, eIs_r, eChain_r, eSl_r, oNo_r, oSo_r, asI_r, bT_r, bV_r, bYes_r, asB_r, truth_b, truth_l, truth_t, truth_n, truth_i, bAnd_r, bOr_r, bNot_r, oAdd_i, oSub_i, oNeg_i, oLt_i, oLe_i, oGt_i, oGe_i, cInt_i, cInt_b, cLen_l, cLen_t, cList_l, cList_t, cMax2_i, cMin2_i, cAbs_i, isT_int_i, isT_bool_i, isT_bool_b, isT_int_b, isT_tuple_t, isT_list_l, oEq_i, oNe_i, oEq_b, oNe_b, oIsN_n, oNotN_n, oIsN_i, oNotN_i, oIsB_b, oNotB_b, sSeqn_r, sNext_r, sBrk_r, sCnt_r, sRetN_r, sExpr_r, sRet_r, sRetOwn_r, sIf_r, sSet_r, sOwn_r, sAsg_r, gV_r, gT_r, gsNil_r, gsCons_r, sFz_r, sAug_r, addI_r, subI_r, sSeq_r, sArgs_r, itemsOf_l, itemsOf_t, sMut_r, fApp_r, Option.bind_some, Option.map_some, List.length_cons, List.length_nil, Nat.zero_add, Nat.reduceAdd, Nat.reduceLT, Nat.reduceLeDiff, List.set_cons_zero, List.set_cons_succ, if_true, Bool.false_eq_true, if_false, Bool.not_true, Bool.not_false, decide_true, decide_false, reduceCtorEq, m2]) hr0) e1 (by rw [List.length_map]; omega)) (by simp))]
  show sSeqn _ _ [.scr (.list (ns.map .int)), .val (.int N), .val (.int X), .val (.int s), .own (.list (I0.map encQ)), .un, .un, .un, .un, .un, .un, .un, .un, .un, .un, .un, .un, .un] = _
  rw [seq_nx ((sFor_eq (ds := ks.map PyData.int) (by simp only [eK_r, eV_0, eV_s, eB_0v, eB_0b, eB_0p, eB_0o, eB_s, eP_0v, eP_0b, eP_s, eS_0, eS_s, getS_0, getS_s, aNil_r, aCons_r, eOp_r, eUn_r, eCall_r, eBm_r, eTup_r, eLst_r, eIf_r, eAnd_r, eOr_r, eNot_r, eIs_r, eChain_r, eSl_r, oNo_r, oSo_r, asI_r, bT_r, bV_r, bYes_r, asB_r, truth_b, truth_l, truth_t, truth_n, truth_i, bAnd_r, bOr_r, bNot_r, oAdd_i, oSub_i, oNeg_i, oLt_i, oLe_i, oGt_i, oGe_i, cInt_i, cInt_b, cLen_l, cLen_t, cList_l, cList_t, cMax2_i, cMin2_i, cAbs_i, isT_int_i, isT_bool_i, isT_bool_b, isT_int_b, isT_tuple_t, isT_list_l, oEq_i, oNe_i, oEq_b, oNe_b, oIsN_n, oNotN_n, oIsN_i, oNotN_i, oIsB_b, oNotB_b, sSeqn_r, sNext_r, sBrk_r, sCnt_r, sRetN_r, sExpr_r, sRet_r, sRetOwn_r, sIf_r, sSet_r, sOwn_r, sAsg_r, gV_r, gT_r, gsNil_r, gsCons_r, sFz_r, sAug_r, addI_r, subI_r, sSeq_r, sArgs_r, itemsOf_l, itemsOf_t, sMut_r, fApp_r, Option.bind_some, Option.map_some, List.length_cons, List.length_nil, Nat.zero_add, Nat.reduceAdd, Nat.reduceLT, Nat.reduceLeDiff, List.set_cons_zero, List.set_cons_succ, if_true, Bool.false_eq_true, if_false, Bool.not_true, Bool.not_false, decide_true, decide_false, reduceCtorEq, cd])).trans e2)]
  rw [seq_nx (sSet_eq (eLc_eq (ds := R.map encQ) (by simp only [eK_r, eV_0, eV_s, eB_0v, eB_0b, eB_0p, eB_0o, eB_s, eP_0v, eP_0b, eP_s, eS_0, eS_s, getS_0, getS_s, aNil_r, aCons_r, eOp_r, eUn_r, eCall_r, eBm_r, eTup_r, eLst_r, eIf_r, eAnd_r, eOr_r, eNot_r, eIs_r, eChain_r, eSl_r, oNo_r, oSo_r, asI_r, bT_r, bV_r, bYes_r, asB_r, truth_b, truth_l, truth_t, truth_n, truth_i, bAnd_r, bOr_r, bNot_r, oAdd_i, oSub_i, oNeg_i, oLt_i, oLe_i, oGt_i, oGe_i, cInt_i, cInt_b, cLen_l, cLen_t, cList_l, cList_t, cMax2_i, cMin2_i, cAbs_i, isT_int_i, isT_bool_i, isT_bool_b, isT_int_b, isT_tuple_t, isT_list_l, oEq_i, oNe_i, oEq_b, oNe_b, oIsN_n, oNotN_n, oIsN_i, oNotN_i, oIsB_b, oNotB_b, sSeqn_r, sNext_r, sBrk_r, sCnt_r, sRetN_r, sExpr_r, sRet_r, sRetOwn_r, sIf_r, sSet_r, sOwn_r, sAsg_r, gV_r, gT_r, gsNil_r, gsCons_r, sFz_r, sAug_r, addI_r, subI_r, sSeq_r, sArgs_r, itemsOf_l, itemsOf_t, sMut_r, fApp_r, Option.bind_some, Option.map_some, List.length_cons, List.length_nil, Nat.zero_add, Nat.reduceAdd, Nat.reduceLT, Nat.reduceLeDiff, List.set_cons_zero, List.set_cons_succ, if_true, Bool.false_eq_true, if_false, Bool.not_true, Bool.not_false, decide_true, decide_false, reduceCtorEq]) h6 (by rw [List.length_map, List.length_map]; omega)) (by simp))]
  show sSeqn _ _ [.scr (.list (ns.map .int)), .val (.int N), .val (.int X), .val (.int s), .own (.list (R.map encQ)), s5, .val (.list ((R.map (·.1)).map .int)), .un, .un, .un, .un, .un, .un, .un, .un, .un, .un, .un] = _
  rw [seq_nx (sSet_eq (eLc_eq (ds := R.map encQ) (by simp only [eK_r, eV_0, eV_s, eB_0v, eB_0b, eB_0p, eB_0o, eB_s, eP_0v, eP_0b, eP_s, eS_0, eS_s, getS_0, getS_s, aNil_r, aCons_r, eOp_r, eUn_r, eCall_r, eBm_r, eTup_r, eLst_r, eIf_r, eAnd_r, eOr_r, eNot_r, eIs_r, eChain_r, eSl_r, oNo_r, oSo_r, asI_r, bT_r, bV_r, bYes_r, asB_r, truth_b, truth_l, truth_t, truth_n, truth_i, bAnd_r, bOr_r, bNot_r, oAdd_i, oSub_i, oNeg_i, oLt_i, oLe_i, oGt_i, oGe_i, cInt_i, cInt_b, cLen_l, cLen_t, cList_l, cList_t, cMax2_i, cMin2_i, cAbs_i, isT_int_i, isT_bool_i, isT_bool_b, isT_int_b, isT_tuple_t, isT_list_l, oEq_i, oNe_i, oEq_b, oNe_b, oIsN_n, oNotN_n, oIsN_i, oNotN_i, oIsB_b, oNotB_b, sSeqn_r, sNext_r, sBrk_r, sCnt_r, sRetN_r, sExpr_r, sRet_r, sRetOwn_r, sIf_r, sSet_r, sOwn_r, sAsg_r, gV_r, gT_r, gsNil_r, gsCons_r, sFz_r, sAug_r, addI_r, subI_r, sSeq_r, sArgs_r, itemsOf_l, itemsOf_t, sMut_r, fApp_r, Option.bind_some, Option.map_some, List.length_cons, List.length_nil, Nat.zero_add, Nat.reduceAdd, Nat.reduceLT, Nat.reduceLeDiff, List.set_cons_zero, List.set_cons_succ, if_true, Bool.false_eq_true, if_false, Bool.not_true, Bool.not_false, decide_true, decide_false, reduceCtorEq]) h7 (by rw [List.length_map, List.length_map]; omega)) (by simp))]
  show sSeqn _ _ [.scr (.list (ns.map .int)), .val (.int N), .val (.int X), .val (.int s), .own (.list (R.map encQ)), s5, .val (.list ((R.map (·.1)).map .int)), .val (.list ((R.map (·.2.2.2)).map .int)), .un, .un, .un, .un, .un, .un, .un, .un, .un, .un] = _
  rw [seq_nx (sSet_eq (eLc_eq (ds := R.map encQ) (by simp only [eK_r, eV_0, eV_s, eB_0v, eB_0b, eB_0p, eB_0o, eB_s, eP_0v, eP_0b, eP_s, eS_0, eS_s, getS_0, getS_s, aNil_r, aCons_r, eOp_r, eUn_r, eCall_r, eBm_r, eTup_r, eLst_r, eIf_r, eAnd_r, eOr_r, eNot_r, eIs_r, eChain_r, eSl_r, oNo_r, oSo_r, asI_r, bT_r, bV_r, bYes_r, asB_r, truth_b, truth_l, truth_t, truth_n, truth_i, bAnd_r, bOr_r, bNot_r, oAdd_i, oSub_i, oNeg_i, oLt_i, oLe_i, oGt_i, oGe_i, cInt_i, cInt_b, cLen_l, cLen_t, cList_l, cList_t, cMax2_i, cMin2_i, cAbs_i, isT_int_i, isT_bool_i, isT_bool_b, isT_int_b, isT_tuple_t, isT_list_l, oEq_i, oNe_i, oEq_b, oNe_b, oIsN_n, oNotN_n, oIsN_i, oNotN_i, oIsB_b, oNotB_b, sSeqn_r, sNext_r, sBrk_r, sCnt_r, sRetN_r, sExpr_r, sRet_r, sRetOwn_r, sIf_r, sSet_r, sOwn_r, sAsg_r, gV_r, gT_r, gsNil_r, gsCons_r, sFz_r, sAug_r, addI_r, subI_r, sSeq_r, sArgs_r, itemsOf_l, itemsOf_t, sMut_r, fApp_r, Option.bind_some, Option.map_some, List.length_cons, List.length_nil, Nat.zero_add, Nat.reduceAdd, Nat.reduceLT, Nat.reduceLeDiff, List.set_cons_zero, List.set_cons_succ, if_true, Bool.false_eq_true, if_false, Bool.not_true, Bool.not_false, decide_true, decide_false, reduceCtorEq]) h8 (by rw [List.length_map, List.length_map]; omega)) (by simp))]
  show sSeqn _ _ (R38 ns N X s (.list (R.map encQ)) s5 (.list ((R.map (·.1)).map .int)) (.list ((R.map (·.2.2.2)).map .int)) (.list ((R.map (·.2.2.1)).map .int)) .un .un .un .un .un .un .un .un) = _
  have h9' : (eCall cSum (aCons (eLc (sSeq (eB 4)) (gV 17) (bT (eOp oGt (eOp oIx (eB 17) (eK (.int 1))) (eK (.int 0)))) (eOp oSub (eOp oIx (eB 17) (eK (.int 0))) (eOp oIx (eB 17) (eK (.int 2)))) [17]) aNil)) (R38 ns N X s (.list (R.map encQ)) s5 (.list ((R.map (·.1)).map .int)) (.list ((R.map (·.2.2.2)).map .int)) (.list ((R.map (·.2.2.1)).map .int)) .un .un .un .un .un .un .un .un) = some (.int rm) := by
    rw [eCall_r, aCons_r, eLc_eq (ds := R.map encQ) (by
      show (sSeq (eB 4)) [_, _, _, _, .own (.list (R.map encQ)), _, _, _, _, _, _, _, _, _, _, _, _, _] = _
      simp only [eK_r, eV_0, eV_s, eB_0v, eB_0b, eB_0p, eB_0o, eB_s, eP_0v, eP_0b, eP_s, eS_0, eS_s, getS_0, getS_s, aNil_r, aCons_r, eOp_r, eUn_r, eCall_r, eBm_r, eTup_r, eLst_r, eIf_r, eAnd_r, eOr_r, eNot_r, eIs_r, eChain_r, eSl_r, oNo_r, oSo_r, asI_r, bT_r, bV_r, bYes_r, asB_r, truth_b, truth_l, truth_t, truth_n, truth_i, bAnd_r, bOr_r, bNot_r, oAdd_i, oSub_i, oNeg_i, oLt_i, oLe_i, oGt_i, oGe_i, cInt_i, cInt_b, cLen_l, cLen_t, cList_l, cList_t, cMax2_i, cMin2_i, cAbs_i, isT_int_i, isT_bool_i, isT_bool_b, isT_int_b, isT_tuple_t, isT_list_l, oEq_i, oNe_i, oEq_b, oNe_b, oIsN_n, oNotN_n, oIsN_i, oNotN_i, oIsB_b, oNotB_b, sSeqn_r, sNext_r, sBrk_r, sCnt_r, sRetN_r, sExpr_r, sRet_r, sRetOwn_r, sIf_r, sSet_r, sOwn_r, sAsg_r, gV_r, gT_r, gsNil_r, gsCons_r, sFz_r, sAug_r, addI_r, subI_r, sSeq_r, sArgs_r, itemsOf_l, itemsOf_t, sMut_r, fApp_r, Option.bind_some, Option.map_some, List.length_cons, List.length_nil, Nat.zero_add, Nat.reduceAdd, Nat.reduceLT, Nat.reduceLeDiff, List.set_cons_zero, List.set_cons_succ, if_true, Bool.false_eq_true, if_false, Bool.not_true, Bool.not_false, decide_true, decide_false, reduceCtorEq]) h9 (by
      rw [List.length_map, List.length_map]
      have := List.length_filter_le (fun r : Q4 => decide (0 < r.2.1)) R
      omega), Option.bind_some, aNil_r, Option.bind_some, Option.bind_some, cSum_i, hroom]
  rw [seq_nx (sSet_eq h9' (by simp))]
  show sSeqn _ _ (R38 ns N X s (.list (R.map encQ)) s5 (.list ((R.map (·.1)).map .int)) (.list ((R.map (·.2.2.2)).map .int)) (.list ((R.map (·.2.2.1)).map .int)) (.val (.int rm)) .un .un .un .un .un .un .un) = _
  rw [seq_nx (ρ' := R38 ns N X s (.list (R.map encQ)) s5 (.list ((R.map (·.1)).map .int)) (.list ((R.map (·.2.2.2)).map .int)) (.list ((R.map (·.2.2.1)).map .int)) (.val (.int rm)) (.val (.int fr)) .un .un .un .un .un .un) (by
    have hv : (eOp oMod (eCall cInt (aCons (eOp oFdiv (eB 1) (eK (.int 16))) aNil)) (eOp oAdd (eOp oMulS (eK (.int 2)) (eB 9)) (eK (.int 2)))) (R38 ns N X s (.list (R.map encQ)) s5 (.list ((R.map (·.1)).map .int)) (.list ((R.map (·.2.2.2)).map .int)) (.list ((R.map (·.2.2.1)).map .int)) (.val (.int rm)) .un .un .un .un .un .un .un) = some (.int qv) := by
      have h1 : (eOp oMulS (eK (.int 2)) (eB 9)) (R38 ns N X s (.list (R.map encQ)) s5 (.list ((R.map (·.1)).map .int)) (.list ((R.map (·.2.2.2)).map .int)) (.list ((R.map (·.2.2.1)).map .int)) (.val (.int rm)) .un .un .un .un .un .un .un) = some (.int (2 * rm)) := q5
      rw [eOp_r, eOp_r, h1]
      simp only [eK_r, eV_0, eV_s, eB_0v, eB_0b, eB_0p, eB_0o, eB_s, eP_0v, eP_0b, eP_s, eS_0, eS_s, getS_0, getS_s, aNil_r, aCons_r, eOp_r, eUn_r, eCall_r, eBm_r, eTup_r, eLst_r, eIf_r, eAnd_r, eOr_r, eNot_r, eIs_r, eChain_r, eSl_r, oNo_r, oSo_r, asI_r, bT_r, bV_r, bYes_r, asB_r, truth_b, truth_l, truth_t, truth_n, truth_i, bAnd_r, bOr_r, bNot_r, oAdd_i, oSub_i, oNeg_i, oLt_i, oLe_i, oGt_i, oGe_i, cInt_i, cInt_b, cLen_l, cLen_t, cList_l, cList_t, cMax2_i, cMin2_i, cAbs_i, isT_int_i, isT_bool_i, isT_bool_b, isT_int_b, isT_tuple_t, isT_list_l, oEq_i, oNe_i, oEq_b, oNe_b, oIsN_n, oNotN_n, oIsN_i, oNotN_i, oIsB_b, oNotB_b, sSeqn_r, sNext_r, sBrk_r, sCnt_r, sRetN_r, sExpr_r, sRet_r, sRetOwn_r, sIf_r, sSet_r, sOwn_r, sAsg_r, gV_r, gT_r, gsNil_r, gsCons_r, sFz_r, sAug_r, addI_r, subI_r, sSeq_r, sArgs_r, itemsOf_l, itemsOf_t, sMut_r, fApp_r, Option.bind_some, Option.map_some, List.length_cons, List.length_nil, Nat.zero_add, Nat.reduceAdd, Nat.reduceLT, Nat.reduceLeDiff, List.set_cons_zero, List.set_cons_succ, if_true, Bool.false_eq_true, if_false, Bool.not_true, Bool.not_false, decide_true, decide_false, reduceCtorEq, q1, q2]
    refine sSet_eq (d := .int fr) ?_ (by simp)
    rw [eCall_r, aCons_r, aCons_r, eOp_r, eLst_r, aCons_r, aCons_r, aCons_r, aCons_r, hv]
    simp only [eK_r, eV_0, eV_s, eB_0v, eB_0b, eB_0p, eB_0o, eB_s, eP_0v, eP_0b, eP_s, eS_0, eS_s, getS_0, getS_s, aNil_r, aCons_r, eOp_r, eUn_r, eCall_r, eBm_r, eTup_r, eLst_r, eIf_r, eAnd_r, eOr_r, eNot_r, eIs_r, eChain_r, eSl_r, oNo_r, oSo_r, asI_r, bT_r, bV_r, bYes_r, asB_r, truth_b, truth_l, truth_t, truth_n, truth_i, bAnd_r, bOr_r, bNot_r, oAdd_i, oSub_i, oNeg_i, oLt_i, oLe_i, oGt_i, oGe_i, cInt_i, cInt_b, cLen_l, cLen_t, cList_l, cList_t, cMax2_i, cMin2_i, cAbs_i, isT_int_i, isT_bool_i, isT_bool_b, isT_int_b, isT_tuple_t, isT_list_l, oEq_i, oNe_i, oEq_b, oNe_b, oIsN_n, oNotN_n, oIsN_i, oNotN_i, oIsB_b, oNotB_b, sSeqn_r, sNext_r, sBrk_r, sCnt_r, sRetN_r, sExpr_r, sRet_r, sRetOwn_r, sIf_r, sSet_r, sOwn_r, sAsg_r, gV_r, gT_r, gsNil_r, gsCons_r, sFz_r, sAug_r, addI_r, subI_r, sSeq_r, sArgs_r, itemsOf_l, itemsOf_t, sMut_r, fApp_r, Option.bind_some, Option.map_some, List.length_cons, List.length_nil, Nat.zero_add, Nat.reduceAdd, Nat.reduceLT, Nat.reduceLeDiff, List.set_cons_zero, List.set_cons_succ, if_true, Bool.false_eq_true, if_false, Bool.not_true, Bool.not_false, decide_true, decide_false, reduceCtorEq, q3, q4, le4, ef, hfr2])]
  have hRow : ∀ r ∈ R.map coreQ, RowOk r := fun r hr => by
    obtain ⟨q, hq, rfl⟩ := List.mem_map.mp hr
    exact q_row (hR q hq)
  have lRc : (R.map coreQ).length ≤ 1000 := by rw [List.length_map]; exact lR
  obtain ⟨E1, k1, n1⟩ := out_props fr (by omega) (R.map coreQ) lRc hRow
  obtain ⟨E2, k2, n2⟩ := out_props (fr + 1) (by omega) (R.map coreQ) lRc hRow
  have g1 := shr_eq fr (by omega) R lR hR
  have g2 := shr_eq (fr + 1) (by omega) R lR hR
  have d1' := due_eq fr (by omega) R lR hR
  generalize outG fr (R.map coreQ) = O1 at *
  generalize outG (fr + 1) (R.map coreQ) = O2 at *
  have hroomG : ∀ G : List Gi, G.map core = R.map coreQ → roomG G = rm := fun G hG => by
    have e1 : roomG G = ((G.map core).map fun r : Int × Int × Int => if 0 < r.2.1 then r.2.2 - r.1 else 0).sum := by rw [List.map_map]; rfl
    rw [e1, hG, List.map_map, ← hrm]
    congr 1
    refine List.map_congr_left fun q _ => ?_
    show (if 0 < q.2.1 then -q.2.2.1 - -q.1 else 0) = _
    split
    · omega
    · rfl
  have hgot1 : gotG O1 = min fr rm := by rw [E1.sum, hroomG _ k1]
  have hgot2 : gotG O2 = min (fr + 1) rm := by rw [E2.sum, hroomG _ k2]
  have hbase : ∀ G : List Gi, G.map core = R.map coreQ → G.map bI = R.map (·.1) ∧ G.map lI = R.map (·.2.2.1) := fun G hG => by
    have e1 : G.map bI = (G.map core).map fun r : Int × Int × Int => -r.1 := by rw [List.map_map]; rfl
    have e2 : G.map lI = (G.map core).map fun r : Int × Int × Int => -r.2.2 := by rw [List.map_map]; rfl
    rw [e1, e2, hG, List.map_map, List.map_map]
    refine ⟨List.map_congr_left fun q _ => ?_, List.map_congr_left fun q _ => ?_⟩
    · show - -q.1 = q.1
      omega
    · show - -q.2.2.1 = q.2.2.1
      omega
  have hgx : ∀ G : List Gi, (G.map gnG).sum = (G.map bI).sum - (G.map xI).sum := fun G => by
    rw [← sum_sub]
    congr 1
    refine List.map_congr_left fun g _ => ?_
    unfold gnG bI xI; omega
  have hsum2 : (R.map (·.1)).sum - (O2.map xI).sum = min (fr + 1) rm := by
    rw [← hgot2, ← (hbase _ k2).1, ← hgx]; rfl
  have hev := even_ok O1 R k1 (by rw [n1]; omega) (fun g hg => by
    have : core g ∈ R.map coreQ := by rw [← k1]; exact List.mem_map.mpr ⟨g, hg, rfl⟩
    have := hRow _ this
    exact ⟨this.1, this.2.1⟩) E1
  obtain ⟨hb1, hl1⟩ := hbase _ k1
  rw [List.length_map] at n1
  have hin := E1.in_
  have cl := clean_ints3 (R.map (·.1)) (R.map (·.2.2.2)) (R.map (·.2.2.1))
  have ne3 := oNe_self cl
  have eq3 := oEq_self cl
  have neT := oNe_is (O1.map xI) (O1.map xI)
  rw [decide_eq_true rfl] at neT
  have sB : cSum [.list ((R.map (·.1)).map .int)] = some (.int (R.map (·.1)).sum) := cSum_i
  have sT : cSum [.list ((O2.map xI).map .int)] = some (.int (O2.map xI).sum) := cSum_i
  have sG : cSum [.list ((O1.map gnG).map .int)] = some (.int (min fr rm)) := by
    rw [cSum_i, ← hgot1]; rfl
  have lT : ((O1.map xI).map PyData.int).length = R.length := by rw [List.length_map, List.length_map, n1]
  have hd : ∀ i : Nat, i < R.length → ∃ (gx gb gl gw : Int) (row : PyData), oIx (.list ((O1.map gnG).map .int)) (.int (i : Nat)) = some (.int (gb - gx)) ∧ oIx (.list ((O1.map xI).map .int)) (.int (i : Nat)) = some (.int gx) ∧ oIx (.list ((R.map (·.1)).map .int)) (.int (i : Nat)) = some (.int gb) ∧ oIx (.list ((R.map (·.2.2.1)).map .int)) (.int (i : Nat)) = some (.int gl) ∧ oIx (.list (R.map encQ)) (.int (i : Nat)) = some row ∧ oIx row (.int 1) = some (.int gw) ∧ gl ≤ gx ∧ gx ≤ gb ∧ (gw = 0 → gx = gb) ∧ ((O1.map gnG).map PyData.int)[i]? = some (.int (gb - gx)) := fun i hi => by
    obtain ⟨g, hg⟩ : ∃ g, O1[i]? = some g := ⟨_, List.getElem?_eq_getElem (by omega)⟩
    have hm := hin g (List.mem_of_getElem? hg)
    have hgn : gnG g = bI g - xI g := by unfold gnG bI xI; omega
    have v1 := ix_map O1 gnG i g hg
    rw [hgn] at v1
    refine ⟨xI g, bI g, lI g, g.w, rowD R i, v1, ix_map O1 xI i g hg, ?_, ?_, row_at R O1 k1 i g hg, (encA R O1 k1 i g hg).2.1, ?_, ?_, ?_, ?_⟩
    · rw [← hb1]; exact ix_map O1 bI i g hg
    · rw [← hl1]; exact ix_map O1 lI i g hg
    · unfold lI xI; omega
    · unfold bI xI; omega
    · intro h
      have := hm.2.2.2 h
      unfold bI xI; omega
    · rw [List.getElem?_map, List.getElem?_map, hg, ← hgn]; rfl
  exact law_end ns N X s s5 _ _ _ _ _ _ (O1.map xI) _ rfl rm fr _ _ R.length lR g1 g2 d1' _ rfl ne3 eq3 neT lT lRl (by rw [List.length_map, List.length_map, n1]) hd sG sB sT hsum2 hev
end Lw
open PySem PySem.W PyProof.Rows
set_option maxHeartbeats 0 in
theorem PySem.Challenge.cw_quirekiln_k38_shrink_widths_holds : PySem.Challenge.rw_quirekiln_k38_shrink_widths.Holds := by
  w_on; o_law; k_head; (case hw => w_witness2)
  k_fill
  refine L2.walk_ofB (l := PySem.Challenge.rw_quirekiln_k38_shrink_widths) (n := 63) (k := 3) (x := "script") (CX := fun _ => L2.CX0) (sp := fun w => DV.spD _ .val [.scr] Lw.F_law) rfl (by decide) rfl ⟨rfl, by decide, by decide⟩ (fun w h Y => PySem.W.kIn_of Y) ?F (fun _ _ a ns hl hb _ hS => DV.law_sp hS (Lw.law_true ns hl hb)) (fun _ _ _ _ _ h => h)
  case F =>
    intro w mg fa h KX G hmg
    refine' Lw.all_mk KX G hmg ?a0 ?l0 ?c0 ?k0 ?a1 ?l1 ?c1 ?k1 ?a2 ?l2 ?c2 ?k2 ?a3 ?l3 ?c3 ?k3 ?a4 ?l4 ?c4 ?k4 ?a5 ?l5 ?c5 ?k5 ?a6 ?l6 ?c6 ?k6 ?a7 ?l7 ?c7 ?k7 ?a8 ?l8 ?c8 ?k8 ?a9 ?l9 ?c9 ?k9 ?a10 ?l10 ?c10 ?k10 ?z_int ?z_len ?z_max ?z_enumerate ?z_sum ?z_list ?z_range ?z_zip ?z_bool ?z_isinstance ?z_min
    (case a0 => k_is); (case l0 => k_is); (case c0 => k_is); (case k0 => k_is); (case a1 => k_is); (case l1 => k_is); (case c1 => k_is); (case k1 => k_is); (case a2 => k_is); (case l2 => k_is); (case c2 => k_is); (case k2 => k_is); (case a3 => k_is); (case l3 => k_is); (case c3 => k_is); (case k3 => k_is); (case a4 => k_is); (case l4 => k_is); (case c4 => k_is); (case k4 => k_is); (case a5 => k_is); (case l5 => k_is); (case c5 => k_is); (case k5 => k_is); (case a6 => k_is); (case l6 => k_is); (case c6 => k_is); (case k6 => k_is); (case a7 => k_is); (case l7 => k_is); (case c7 => k_is); (case k7 => k_is); (case a8 => k_is); (case l8 => k_is); (case c8 => k_is); (case k8 => k_is); (case a9 => k_is); (case l9 => k_is); (case c9 => k_is); (case k9 => k_is); (case a10 => k_is); (case l10 => k_is); (case c10 => k_is); (case k10 => k_is); (case z_int => k_is); (case z_len => k_is); (case z_max => k_is); (case z_enumerate => k_is); (case z_sum => k_is); (case z_list => k_is); (case z_range => k_is); (case z_zip => k_is); (case z_bool => k_is); (case z_isinstance => k_is); (case z_min => k_is)
