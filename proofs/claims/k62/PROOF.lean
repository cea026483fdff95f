import PyProof.Rows.All
import Wide.All
import OpenK.AllK
import Wide.FinOn
import HandS.Base
import HandS.Call
import HandS.List
import HandS.Comp
import HandS.Ends
import HandS.Dict
import HandS.Iter
import HandS.Text
import HandS.Words
import HandS.WordsList
import HandS.Wide
import HandS.Flow
import HandS.Style
import HandS.IsInst
import HandS.More
import HandS.Deep
import HandS.Codes
import HandS.StrMore
import HandS.Defaults
import HandS.MakeKwOnly
import HandS.TupLen
import HandS.TupAny
import HandS.DictComp
import HandS.Flt
import HandS.SetBool
import HandS.Strs
import HandS.SortRule
import HandS.SortInts
import HandS.Property
import HandS.OwnIter
import HandS.IterNext
import HandS.Conv
import KE.KDictCopyH
import PyProof.Rows.StrMeet
import HandS.AnyAll
import HandS.EndTab
import KE.KAssignIn
import PyProof.Walk
import PyProof.WalkLemmas
import PyProof.SeqWrite
import PyProof.Examples.IsLeap
import HandS.Replace
import HandS.ReplaceLit
import KE.KEqNest
import HandS.Head0
import HandS.Head1
import HandS.Head2
import HandS.HeadHook1
import HandS.HeadHook2
import HandS.HeadHook4
import HandS.EndBits
import PySem.Challenge.RW_quirekiln_k62_whole_lines_of_words_and_b
set_option Elab.async false
set_option linter.all false
set_option maxRecDepth 100000
set_option maxHeartbeats 4000000
namespace DV
open PySem L2

/-! ### heaps that grow -/
def Ex (H H' : Hp) : Prop := ∀ a o, H a = some o → H' a = some o
theorem Ex.refl (H : Hp) : Ex H H := fun _ _ h => h
theorem Ex.trans {H H1 H2 : Hp} (a : Ex H H1) (b : Ex H1 H2) : Ex H H2 := fun x o h => b x o (a x o h)
theorem Ex.new {H : Hp} {p : Addr} {o : HO} (h : H p = none) : Ex H (upd H p o) := fun a u e => by
  rw [upd_ne (ne_of_none e h)]; exact e
/-- an object that H does not know may change -/
theorem Ex.mut {H H' : Hp} {p : Addr} {o : HO} (e : Ex H H') (h : H p = none) : Ex H (upd H' p o) := fun a u ha => by
  rw [upd_ne (ne_of_none ha h)]; exact e a u ha
theorem Ex.upd2 {H H' : Hp} {p : Addr} {o : HO} (e : Ex H H') : Ex (upd H p o) (upd H' p o) := fun a u ha => by
  by_cases h : a = p
  · subst h; rw [upd_same] at ha ⊢; exact ha
  · rw [upd_ne h] at ha ⊢; exact e a u ha
theorem Ex.back {H H' : Hp} {p : Addr} (e : Ex H H') (h : H' p = none) : H p = none := by
  cases h1 : H p with
  | none => rfl
  | some o => rw [e p o h1] at h; cases h
theorem Ex.rd {H H' : Hp} {a : Addr} {u : HO} (e : Ex H H') (h : Rd H a u) : Rd H' a u := by
  rcases h with h | ⟨o, h⟩
  · exact Or.inl (e a _ h)
  · exact Or.inr ⟨o, e a _ h⟩
theorem Ex.sql {K : PySem.W.Frag} {H H' : Hp} {a : Addr} {xs : List V} (e : Ex H H') (h : SqL K H a xs) : SqL K H' a xs := h.imp e.rd id
theorem Ex.sqt {K : PySem.W.Frag} {H H' : Hp} {a : Addr} {xs : List V} (e : Ex H H') (h : SqT K H a xs) : SqT K H' a xs := h.imp e.rd id

theorem sqtOf {K : PySem.W.Frag} {G : Hp} {a : Addr} {vs : List V} (h : G a = some (.tup vs)) : SqT K G a vs := .inl (.inl h)
/-! ### deep values -/
/-- the keys of a dict as data -/
def keyD : Key → PyData
  | .inl i => .int i
  | .inr x => .str x
def keysD (ks : List Key) : PyData := .tuple (ks.map keyD)
mutual
inductive Rep (K : PySem.W.Frag) (G : Hp) : PyData → V → Prop
  | non : Rep K G .none .non
  | bl (b : Bool) : Rep K G (.bool b) (.bl b)
  | int (i : Int) : Rep K G (.int i) (.int i)
  | str (x : Str) : Rep K G (.str x) (.str x)
  | lst {a : Addr} {vs : List V} {ds : List PyData} : Rd G a (.lst vs) → RepA K G ds vs → Rep K G (.list ds) (.ref a)
  | tup {a : Addr} {vs : List V} {ds : List PyData} : G a = some (.tup vs) → RepA K G ds vs → Rep K G (.tuple ds) (.ref a)
  | dK {a : Addr} {ks : List (Key × V)} {es : List (PyData × PyData)} : (∃ o, G a = some (.frz o (.dK ks))) → es.map (·.1) = ks.map (fun p => keyD p.1) → RepA K G (es.map (·.2)) (ks.map (·.2)) → Rep K G (.dict es) (.ref a)
  | dT {a : Addr} {ks : List (List Key × V)} {es : List (PyData × PyData)} : (∃ o, G a = some (.frz o (.dT ks))) → es.map (·.1) = ks.map (fun p => keysD p.1) → RepA K G (es.map (·.2)) (ks.map (·.2)) → Rep K G (.dict ((.none, .none) :: es)) (.ref a)
inductive RepA (K : PySem.W.Frag) (G : Hp) : List PyData → List V → Prop
  | nil : RepA K G [] []
  | cons {d : PyData} {ds : List PyData} {v : V} {vs : List V} : Rep K G d v → RepA K G ds vs → RepA K G (d :: ds) (v :: vs)
end
section
variable {K : PySem.W.Frag} {G G' H : Hp}
mutual
theorem Rep.mono (e : Ex G G') : ∀ {d : PyData} {v : V}, Rep K G d v → Rep K G' d v
  | _, _, .non => .non
  | _, _, .bl b => .bl b
  | _, _, .int i => .int i
  | _, _, .str x => .str x
  | _, _, .lst h r => .lst (e.rd h) (RepA.mono e r)
  | _, _, .tup h r => .tup (e _ _ h) (RepA.mono e r)
  | _, _, .dK h k r => .dK (h.imp fun o q => e _ _ q) k (RepA.mono e r)
  | _, _, .dT h k r => .dT (h.imp fun o q => e _ _ q) k (RepA.mono e r)
theorem RepA.mono (e : Ex G G') : ∀ {ds : List PyData} {vs : List V}, RepA K G ds vs → RepA K G' ds vs
  | _, _, .nil => .nil
  | _, _, .cons h r => .cons (Rep.mono e h) (RepA.mono e r)
end
theorem RepA.len : ∀ {ds : List PyData} {vs : List V}, RepA K G ds vs → ds.length = vs.length
  | _, _, .nil => rfl
  | _, _, .cons _ r => congrArg (· + 1) r.len
theorem RepA.get : ∀ {ds : List PyData} {vs : List V} {i : Nat} {d : PyData}, RepA K G ds vs → ds[i]? = some d → ∃ v, vs[i]? = some v ∧ Rep K G d v
  | _, _, _, _, .nil, e => by simp at e
  | _, _, 0, _, .cons h _, e => by simp at e; subst e; exact ⟨_, rfl, h⟩
  | _, _, i + 1, d, .cons _ r, e => by
    obtain ⟨v, h1, h2⟩ := RepA.get (i := i) (d := d) r (by simpa using e)
    exact ⟨v, by simpa using h1, h2⟩
theorem RepA.app : ∀ {ds es : List PyData} {vs us : List V}, RepA K G ds vs → RepA K G es us → RepA K G (ds ++ es) (vs ++ us)
  | _, _, _, _, .nil, s => s
  | _, _, _, _, .cons h r, s => .cons h (RepA.app r s)
theorem RepA.take : ∀ {ds : List PyData} {vs : List V} (n : Nat), RepA K G ds vs → RepA K G (ds.take n) (vs.take n)
  | _, _, 0, _ => .nil
  | _, _, _ + 1, .nil => .nil
  | _, _, n + 1, .cons h r => .cons h (RepA.take n r)
theorem RepA.drop : ∀ {ds : List PyData} {vs : List V} (n : Nat), RepA K G ds vs → RepA K G (ds.drop n) (vs.drop n)
  | _, _, 0, r => r
  | _, _, _ + 1, .nil => .nil
  | _, _, n + 1, .cons _ r => RepA.drop n r
theorem RepA.set : ∀ {ds : List PyData} {vs : List V} {d : PyData} {v : V} (i : Nat), RepA K G ds vs → Rep K G d v → RepA K G (ds.set i d) (vs.set i v)
  | _, _, _, _, _, .nil, _ => .nil
  | _, _, _, _, 0, .cons _ r, h => .cons h r
  | _, _, _, _, i + 1, .cons q r, h => .cons q (RepA.set i r h)
theorem RepA.reverse {ds : List PyData} {vs : List V} (r : RepA K G ds vs) : RepA K G ds.reverse vs.reverse := by
  induction ds generalizing vs with
  | nil => cases r; exact .nil
  | cons d ds ih =>
    cases r with
    | cons h r =>
      rw [List.reverse_cons, List.reverse_cons]
      exact (ih r).app (.cons h .nil)
/-- data made of ints -/
theorem RepA.ints (ns : List Int) : RepA K G (ns.map .int) (ns.map V.int) := by
  induction ns with
  | nil => exact .nil
  | cons n r ih => exact .cons (.int n) ih
theorem RepA.ofInts : ∀ {ns : List Int} {vs : List V}, RepA K G (ns.map .int) vs → vs = ns.map V.int
  | [], _, .nil => rfl
  | n :: r, _, .cons h t => by
    cases h
    rw [RepA.ofInts t]; rfl
/-- what is read now: its root may be somebody's own -/
inductive RepB (K : PySem.W.Frag) (G H : Hp) : PyData → V → Prop
  | val {d : PyData} {v : V} : Rep K G d v → RepB K G H d v
  | lst {a : Addr} {vs : List V} {ds : List PyData} : H a = some (.lst vs) → RepA K G ds vs → RepB K G H (.list ds) (.ref a)
  | dK {a : Addr} {ks : List (Key × V)} {es : List (PyData × PyData)} : H a = some (.dK ks) → es.map (·.1) = ks.map (fun p => keyD p.1) → RepA K G (es.map (·.2)) (ks.map (·.2)) → RepB K G H (.dict es) (.ref a)
  | dT {a : Addr} {ks : List (List Key × V)} {es : List (PyData × PyData)} : H a = some (.dT ks) → es.map (·.1) = ks.map (fun p => keysD p.1) → RepA K G (es.map (·.2)) (ks.map (·.2)) → RepB K G H (.dict ((.none, .none) :: es)) (.ref a)
theorem RepB.mono {H' : Hp} (e : Ex G G') (e2 : Ex H H') {d : PyData} {v : V} (h : RepB K G H d v) : RepB K G' H' d v := by
  cases h with
  | val h => exact .val (h.mono e)
  | lst h r => exact .lst (e2 _ _ h) (r.mono e)
  | dK h k r => exact .dK (e2 _ _ h) k (r.mono e)
  | dT h k r => exact .dT (e2 _ _ h) k (r.mono e)

/-- the script, a list of ints that is read alone -/
def KTp (K : PySem.W.Frag) (a : Addr) (vs : List V) : Prop := ∃ (o : Obj) (its : Array Value) (n : Nat), K.lookup a = some o ∧ o.cls = .type "tuple" ∧ o.data = .seq its n ∧ its.size ≤ sizeLine ∧ Vals vs its.toList
/-- the script; or an empty tuple that stood ahead of the call -/
def RepS (K : PySem.W.Frag) (H : Hp) (d : PyData) (v : V) : Prop := (∃ (a : Addr) (ns : List Int), v = .ref a ∧ d = .list (ns.map .int) ∧ SqL K H a (ns.map V.int)) ∨ ∃ a : Addr, v = .ref a ∧ d = .tuple [] ∧ KTp K a []
theorem RepS.mono {H' : Hp} (e : Ex H H') {d : PyData} {v : V} (h : RepS K H d v) : RepS K H' d v := by
  rcases h with ⟨a, ns, e1, e2, q⟩ | h
  · exact .inl ⟨a, ns, e1, e2, e.sql q⟩
  · exact .inr h
/-- what an own root holds -/
inductive Own (K : PySem.W.Frag) (G H : Hp) (a : Addr) : PyData → Prop
  | lst {vs : List V} {ds : List PyData} : H a = some (.lst vs) → RepA K G ds vs → Own K G H a (.list ds)
  | dK {ks : List (Key × V)} {es : List (PyData × PyData)} : H a = some (.dK ks) → es.map (·.1) = ks.map (fun p => keyD p.1) → RepA K G (es.map (·.2)) (ks.map (·.2)) → Own K G H a (.dict es)
  | dT {ks : List (List Key × V)} {es : List (PyData × PyData)} : H a = some (.dT ks) → es.map (·.1) = ks.map (fun p => keysD p.1) → RepA K G (es.map (·.2)) (ks.map (·.2)) → Own K G H a (.dict ((.none, .none) :: es))
theorem Own.mono {H' : Hp} {a : Addr} (e : Ex G G') (e2 : H' a = H a) {d : PyData} (h : Own K G H a d) : Own K G' H' a d := by
  cases h with
  | lst h r => exact .lst (e2.trans h) (r.mono e)
  | dK h k r => exact .dK (e2.trans h) k (r.mono e)
  | dT h k r => exact .dT (e2.trans h) k (r.mono e)
theorem Own.there {a : Addr} {d : PyData} (h : Own K G H a d) : ∃ o, H a = some o := by
  cases h with
  | lst h r => exact ⟨_, h⟩
  | dK h k r => exact ⟨_, h⟩
  | dT h k r => exact ⟨_, h⟩
theorem Own.bor {a : Addr} {d : PyData} (h : Own K G H a d) : RepB K G H d (.ref a) := by
  cases h with
  | lst h r => exact .lst h r
  | dK h k r => exact .dK h k r
  | dT h k r => exact .dT h k r
/-- frozen: the root goes over to G; a dict is locked then -/
def Lk (u u' : HO) : Prop := u' = u ∨ Mut (some u) ∧ ∃ od, u' = .frz od u
theorem Own.freeze {a : Addr} {d : PyData} (h : Own K G H a d) (n : G a = none) : ∃ u, H a = some u ∧ (Rep K (upd G a u) d (.ref a) ∨ Mut (some u) ∧ ∀ od, Rep K (upd G a (.frz od u)) d (.ref a)) := by
  cases h with
  | lst h r => exact ⟨_, h, .inl (.lst (.inl upd_same) (r.mono (Ex.new n)))⟩
  | dK h k r => exact ⟨_, h, .inr ⟨trivial, fun od => .dK ⟨od, upd_same⟩ k (r.mono (Ex.new n))⟩⟩
  | dT h k r => exact ⟨_, h, .inr ⟨trivial, fun od => .dT ⟨od, upd_same⟩ k (r.mono (Ex.new n))⟩⟩
end

/-! ### slots -/
inductive Slot where
  | un | val (d : PyData) | bor (d : PyData) | own (d : PyData) | scr (d : PyData) | pin (d : PyData) | st (a : Addr)
abbrev Rho := List Slot
inductive Out where
  | nx (r : Rho) | rt (d : PyData) | bk (r : Rho) | ct (r : Rho)
abbrev SE := Rho → Option PyData
abbrev SB := Rho → Option Bool
abbrev SA := Rho → Option (List PyData)
abbrev SS := Rho → Option Out

/-- what may go over to G: what was not there, or a tuple -/
def Fresh : Option HO → Prop
  | none => True
  | some (.tup _) => True
  | _ => False
theorem Fresh.back {H H' : Hp} (e : Ex H H') {a : Addr} (h : Fresh (H' a)) : Fresh (H a) := by
  cases q : H a with
  | none => trivial
  | some o => rw [e _ _ q] at h; exact h
theorem Own.nofresh {K : PySem.W.Frag} {G H : Hp} {a : Addr} {d : PyData} (h : Own K G H a d) : ¬ Fresh (H a) := by
  cases h with
  | lst h r => rw [h]; exact id
  | dK h k r => rw [h]; exact id
  | dT h k r => rw [h]; exact id
theorem Fresh.of {H : Hp} {a : Addr} (h : H a = none) : Fresh (H a) := by rw [h]; trivial
/-- how the heaps grow within a call: G0, H0 at its entry -/
structure Gx (G0 H0 G H : Hp) : Prop where
  g : Ex G0 G
  h : Ex H0 H
  gh : Ex G H
  nw : ∀ a, G a ≠ none → G0 a ≠ none ∨ Fresh (H0 a)
/-- a call's start: its ghost heap, and the lists that are lent to a loop, by slot -/
structure Fr where
  g : Hp
  b : Hp
  pin : Nat → Option (Addr × List V)
  sts : Nat → Addr → Prop
inductive SlotOk (K : PySem.W.Frag) (S : Nat → Addr → Prop) (B H0 G H : Hp) : Slot → Option V → Prop
  | un {v : Option V} : SlotOk K S B H0 G H .un v
  | val {d : PyData} {v : V} : Rep K G d v → SlotOk K S B H0 G H (.val d) (some v)
  | bor {d : PyData} {v : V} : RepB K G B d v → SlotOk K S B H0 G H (.bor d) (some v)
  | own {d : PyData} {a : Addr} : H0 a = none → G a = none → Own K G H a d → SlotOk K S B H0 G H (.own d) (some (.ref a))
  | scr {d : PyData} {v : V} : RepS K B d v → SlotOk K S B H0 G H (.scr d) (some v)
  | pin {d : PyData} {v : Option V} : SlotOk K S B H0 G H (.pin d) v
  | st {h : Nat} {a : Addr} : S h a → SlotOk K S B H0 G H (.st h) (some (.ref a))
structure Sok (K : PySem.W.Frag) (G0 : Fr) (H0 G : Hp) (ρ : Rho) (σ : St) (H : Hp) : Prop where
  gx : Gx G0.g H0 G H
  len : σ.length = ρ.length
  slot : ∀ (i : Nat) (s : Slot), ρ[i]? = some s → SlotOk K G0.sts G0.b H0 G H s (σ[i]?.getD none)
  apart : ∀ (i j : Nat) (d e : PyData) (a : Addr), i ≠ j → ρ[i]? = some (.own d) → ρ[j]? = some (.own e) → σ[i]? = some (some (.ref a)) → σ[j]? ≠ some (some (.ref a))
  pins : ∀ (i : Nat) (d : PyData), ρ[i]? = some (.pin d) → ∃ a vs ds, G0.pin i = some (a, vs) ∧ σ[i]? = some (some (.ref a)) ∧ d = .list ds ∧ RepA K G ds vs
  base : Ex G0.b H0
  wf : ∀ (i : Nat) (a : Addr) (vs : List V), G0.pin i = some (a, vs) → H0 a = some (.lst vs)
section
variable {K : PySem.W.Frag} {G0 : Fr} {H0 G H G' H' : Hp} {ρ : Rho} {σ : St}
theorem getD_some {σ : L2.St} {i : Nat} {v : V} (h : σ[i]?.getD none = some v) : σ[i]? = some (some v) := by
  cases e : σ[i]? with
  | none => rw [e] at h; cases h
  | some o => rw [e] at h; exact congrArg _ h
/-- the heaps have grown, the slots are as they were -/
theorem Sok.grow (s : Sok K G0 H0 G ρ σ H) (e : Ex G G') (e2 : Ex H H') (e3 : Ex G' H') (nw : ∀ a, G' a ≠ none → G a ≠ none ∨ Fresh (H a)) : Sok K G0 H0 G' ρ σ H' := by
  refine ⟨⟨s.gx.g.trans e, s.gx.h.trans e2, e3, fun a ha => ?_⟩, s.len, fun i q hi => ?_, s.apart, fun i d hi => (s.pins i d hi).imp fun a h => h.imp fun vs h => h.imp fun ds ⟨p1, p2, p3, p4⟩ => ⟨p1, p2, p3, p4.mono e⟩, s.base, s.wf⟩
  · rcases nw a ha with h | h
    · exact s.gx.nw a h
    · exact .inr (h.back s.gx.h)
  · have h := s.slot i q hi
    revert h
    generalize σ[i]?.getD none = w
    intro h
    cases h with
    | un => exact .un
    | val h => exact .val (h.mono e)
    | bor h => exact .bor (h.mono e (Ex.refl _))
    | scr h => exact .scr h
    | pin => exact .pin
    | st h => exact .st h
    | own h1 h2 h3 =>
      obtain ⟨o, ho⟩ := h3.there
      refine .own h1 ?_ (h3.mono e ((e2 _ _ ho).trans ho.symm))
      cases q : G' _ with
      | none => rfl
      | some u =>
        rcases nw _ (by rw [q]; simp) with z | z
        · exact absurd h2 z
        · exact absurd z h3.nofresh
theorem Gx.refl (e : Ex G H) : Gx G H G H := ⟨Ex.refl _, Ex.refl _, e, fun _ h => .inl h⟩
theorem Gx.trans {G1 H1 G2 H2 G3 H3 : Hp} (a : Gx G1 H1 G2 H2) (b : Gx G2 H2 G3 H3) : Gx G1 H1 G3 H3 :=
  ⟨a.g.trans b.g, a.h.trans b.h, b.gh, fun x hx => (b.nw x hx).elim (a.nw x) fun z => .inr (z.back a.h)⟩
theorem Sok.gx' (s : Sok K G0 H0 G ρ σ H) (x : Gx G H G' H') : Sok K G0 H0 G' ρ σ H' := s.grow x.g x.h x.gh x.nw
/-- a new object that goes to G -/
theorem Gx.new {p : Addr} {o : HO} (e : Ex G H) (n : H p = none) : Gx G H (upd G p o) (upd H p o) := by
  have n2 := e.back n
  refine ⟨Ex.new n2, Ex.new n, e.upd2, fun a ha => ?_⟩
  by_cases q : a = p
  · subst q; exact .inr (.of n)
  · rw [upd_ne q] at ha; exact .inl ha
/-- a new object that is nobody's yet -/
theorem Gx.mine {p : Addr} {o : HO} (e : Ex G H) (n : H p = none) : Gx G H G (upd H p o) := ⟨Ex.refl _, Ex.new n, e.trans (Ex.new n), fun _ h => .inl h⟩
end

/-! ### what an expression gives -/
inductive Md where
  | val | par | bor | new | scr
  deriving DecidableEq
def RM (K : PySem.W.Frag) (H0 Hs : Hp) : Md → Hp → Hp → PyData → V → Prop
  | .val, G, _, d, v => Rep K G d v
  | .par, G, _, d, v => RepB K G H0 d v
  | .bor, G, H, d, v => RepB K G H d v
  | .new, G, H, d, v => ∃ p, v = .ref p ∧ Hs p = none ∧ G p = none ∧ Own K G H p d
  | .scr, _, H, d, v => RepS K H d v
section
variable {K : PySem.W.Frag} {G9 H0 G H G' H' Hs : Hp} {G0 : Fr} {ρ : Rho} {σ : L2.St} {d : PyData} {v : V}
theorem RM.mono {m : Md} (x : Gx G H G' H') (h : RM K H0 Hs m G H d v) : RM K H0 Hs m G' H' d v := by
  cases m with
  | val => exact Rep.mono x.g h
  | par => exact RepB.mono x.g (Ex.refl _) h
  | bor => exact RepB.mono x.g x.h h
  | scr => exact RepS.mono x.h h
  | new =>
    obtain ⟨p, e, n, g, o⟩ := h
    obtain ⟨u, hu⟩ := o.there
    refine ⟨p, e, n, ?_, o.mono x.g ((x.h _ _ hu).trans hu.symm)⟩
    cases q : G' p with
    | none => rfl
    | some w =>
      rcases x.nw p (by rw [q]; simp) with z | z
      · exact absurd g z
      · exact absurd z o.nofresh
theorem RM.start {m : Md} {H1 : Hp} (e : Ex H1 Hs) (h : RM K H0 Hs m G H d v) : RM K H0 H1 m G H d v := by
  cases m with
  | val => exact h
  | par => exact h
  | bor => exact h
  | scr => exact h
  | new =>
    obtain ⟨p, e1, n, g, o⟩ := h
    exact ⟨p, e1, e.back n, g, o⟩
theorem RM.bor {m : Md} (hm : m ≠ .scr) (e : Ex H0 H) (h : RM K H0 Hs m G H d v) : RepB K G H d v := by
  cases m with
  | val => exact .val h
  | par => exact RepB.mono (Ex.refl _) e h
  | bor => exact h
  | scr => exact absurd rfl hm
  | new =>
    obtain ⟨p, rfl, n, g, o⟩ := h
    exact o.bor
/-- frozen: a new one goes over to G -/
theorem Gx.put {p : Addr} {u : HO} (x : Gx G9 Hs G H) (n : Hs p = none) (g : G p = none) : Gx G9 Hs (upd G p u) (upd H p u) := by
  refine ⟨x.g.trans (Ex.new g), fun a w hw => ?_, fun a w hw => ?_, fun a ha => ?_⟩
  · rw [upd_ne (ne_of_none hw n)]; exact x.h a w hw
  · by_cases q : a = p
    · subst q; rw [upd_same] at hw ⊢; exact hw
    · rw [upd_ne q] at hw ⊢; exact x.gh a w hw
  · by_cases q : a = p
    · subst q; exact .inr (.of n)
    · rw [upd_ne q] at ha; exact x.nw a ha
theorem upd_id {H : Hp} {p : Addr} {u : HO} (h : H p = some u) : upd H p u = H := by
  funext a
  by_cases q : a = p
  · subst q; rw [upd_same, h]
  · rw [upd_ne q]
theorem RM.freeze (x : Gx G9 Hs G H) (h : RM K H0 Hs .new G H d v) : ∃ p u, v = .ref p ∧ H p = some u ∧ ((∃ G', Gx G9 Hs G' H ∧ Ex G G' ∧ Rep K G' d v) ∨ Mut (some u) ∧ ∀ od, ∃ G', Gx G9 Hs G' (upd H p (.frz od u)) ∧ Ex G G' ∧ Rep K G' d v) := by
  obtain ⟨p, rfl, n, g, o⟩ := h
  obtain ⟨u, hu, r⟩ := o.freeze g
  refine ⟨p, u, rfl, hu, r.imp (fun r => ⟨upd G p u, ?_, Ex.new g, r⟩) fun ⟨mu, r⟩ => ⟨mu, fun od => ⟨_, x.put n g, Ex.new g, r od⟩⟩⟩
  have := x.put (u := u) n g
  rw [upd_id hu] at this
  exact this
/-! ### slots are stored -/
theorem getD_set {σ : L2.St} {i j : Nat} {o : Option V} (hi : i < σ.length) : (σ.set i o)[j]?.getD none = if j = i then o else σ[j]?.getD none := by
  by_cases h : j = i
  · subst h; rw [if_pos rfl, List.getElem?_set_self hi]; rfl
  · rw [if_neg h, List.getElem?_set_ne (Ne.symm h)]
theorem Sok.put (s : Sok K G0 H0 G ρ σ H) {i : Nat} {t : Slot} {o : Option V} (hi : i < ρ.length) (h : SlotOk K G0.sts G0.b H0 G H t o)
    (ap : ∀ d a, t = .own d → o = some (.ref a) → ∀ j e, j ≠ i → ρ[j]? = some (.own e) → σ[j]? ≠ some (some (.ref a))) (np : ∀ d, t ≠ .pin d := by intro _ z; cases z) : Sok K G0 H0 G (ρ.set i t) (σ.set i o) H := by
  have hi' : i < σ.length := by rw [s.len]; exact hi
  refine ⟨s.gx, by rw [List.length_set, List.length_set, s.len], fun j q hj => ?_, fun j k d e a hjk h1 h2 h3 h4 => ?_, fun j d hj => ?_, s.base, s.wf⟩
  · rw [getD_set hi']
    by_cases z : j = i
    · subst z
      rw [List.getElem?_set_self hi] at hj
      cases hj
      rw [if_pos rfl]; exact h
    · rw [List.getElem?_set_ne (Ne.symm z)] at hj
      rw [if_neg z]; exact s.slot j q hj
  · by_cases z : j = i
    · subst z
      rw [List.getElem?_set_self hi] at h1
      cases h1
      rw [List.getElem?_set_self hi'] at h3
      cases h3
      rw [List.getElem?_set_ne (fun z => hjk z)] at h2 h4
      exact ap d a rfl rfl k e (fun z => hjk z.symm) h2 h4
    · rw [List.getElem?_set_ne (Ne.symm z)] at h1 h3
      by_cases y : k = i
      · subst y
        rw [List.getElem?_set_self hi] at h2
        cases h2
        rw [List.getElem?_set_self hi'] at h4
        cases h4
        exact ap e a rfl rfl j d z h1 h3
      · rw [List.getElem?_set_ne (Ne.symm y)] at h2 h4
        exact s.apart j k d e a hjk h1 h2 h3 h4
  · by_cases z : j = i
    · subst z
      rw [List.getElem?_set_self hi] at hj
      cases hj
      exact absurd rfl (np d)
    · rw [List.getElem?_set_ne (Ne.symm z)] at hj ⊢
      exact s.pins j d hj
theorem Sok.setVal (s : Sok K G0 H0 G ρ σ H) {i : Nat} (hi : i < ρ.length) (h : Rep K G d v) : Sok K G0 H0 G (ρ.set i (.val d)) (σ.set i (some v)) H :=
  s.put hi (.val h) fun _ _ e => by cases e
theorem Sok.setUn (s : Sok K G0 H0 G ρ σ H) {i : Nat} (hi : i < ρ.length) (o : Option V) : Sok K G0 H0 G (ρ.set i .un) (σ.set i o) H :=
  s.put hi .un fun _ _ e => by cases e
/-- the root of an own slot -/
theorem Sok.own (s : Sok K G0 H0 G ρ σ H) {i : Nat} (h : ρ[i]? = some (.own d)) : ∃ a, σ[i]? = some (some (.ref a)) ∧ H0 a = none ∧ G a = none ∧ Own K G H a d := by
  have q := s.slot i _ h
  generalize e : σ[i]?.getD none = w at q
  cases q with
  | own h1 h2 h3 => exact ⟨_, getD_some e, h1, h2, h3⟩
theorem Sok.setOwn (s : Sok K G0 H0 G ρ σ H) (x : Gx G H G' H') {i : Nat} (hi : i < ρ.length) (h : RM K H0 H .new G' H' d v) : Sok K G0 H0 G' (ρ.set i (.own d)) (σ.set i (some v)) H' := by
  obtain ⟨p, rfl, n, g, o⟩ := h
  refine (s.gx' x).put hi (.own (s.gx.h.back n) g o) fun d' a e1 e2 j e hj h1 h2 => ?_
  cases e2
  obtain ⟨b, k1, _, _, k4⟩ := s.own h1
  obtain ⟨u, hu⟩ := k4.there
  rw [h2] at k1; cases k1
  rw [n] at hu; cases hu
/-- an own object changes -/
theorem Sok.write (s : Sok K G0 H0 G ρ σ H) {i : Nat} {a : Addr} {o : HO} {d' : PyData} (h : ρ[i]? = some (.own d)) (ha : σ[i]? = some (some (.ref a))) (hn : H0 a = none) (hg : G a = none) (ow : Own K G (upd H a o) a d') : Sok K G0 H0 G (ρ.set i (.own d')) σ (upd H a o) := by
  have hi : i < ρ.length := (List.getElem?_eq_some_iff.mp h).1
  refine ⟨⟨s.gx.g, s.gx.h.mut hn, s.gx.gh.mut hg, s.gx.nw⟩, by rw [List.length_set]; exact s.len, fun j q hj => ?_, fun j k d1 e b hjk h1 h2 h3 h4 => ?_, fun j d hj => ?_, s.base, s.wf⟩
  · by_cases z : j = i
    · subst z
      rw [List.getElem?_set_self hi] at hj
      cases hj
      rw [ha]
      exact .own hn hg ow
    · rw [List.getElem?_set_ne (Ne.symm z)] at hj
      have q2 := s.slot j q hj
      generalize e : σ[j]?.getD none = w at q2
      cases q2 with
      | un => exact .un
      | val h => exact .val h
      | bor h => exact .bor h
      | scr h => exact .scr h
      | pin => exact .pin
      | st h => exact .st h
      | own k1 k2 k3 =>
        refine .own k1 k2 (k3.mono (Ex.refl _) ?_)
        rw [upd_ne]
        rintro rfl
        exact s.apart i j _ _ _ (fun z' => z z'.symm) h hj ha (getD_some e)
  · have own_of : ∀ {j : Nat} {e : PyData}, (ρ.set i (.own d'))[j]? = some (.own e) → ∃ e', ρ[j]? = some (.own e') := fun {j e} q => by
      by_cases z : j = i
      · subst z; exact ⟨_, h⟩
      · rw [List.getElem?_set_ne (Ne.symm z)] at q; exact ⟨_, q⟩
    obtain ⟨_, q1⟩ := own_of h1
    obtain ⟨_, q2⟩ := own_of h2
    exact s.apart j k _ _ b hjk q1 q2 h3 h4
  · by_cases z : j = i
    · subst z
      rw [List.getElem?_set_self hi] at hj; cases hj
    · rw [List.getElem?_set_ne (Ne.symm z)] at hj; exact s.pins j d hj
/-- an own object is frozen -/
theorem Sok.freezeU (s : Sok K G0 H0 G ρ σ H) {i : Nat} {a : Addr} {u : HO} (h : ρ[i]? = some (.own d)) (ha : σ[i]? = some (some (.ref a))) (hn : H0 a = none) (hg : G a = none) (r : Rep K (upd G a u) d (.ref a)) :
    Ex G (upd G a u) ∧ Sok K G0 H0 (upd G a u) (ρ.set i (.val d)) σ (upd H a u) := by
  have hi : i < ρ.length := (List.getElem?_eq_some_iff.mp h).1
  have gx : Gx G0.g H0 (upd G a u) (upd H a u) := s.gx.put hn hg
  refine ⟨Ex.new hg, gx, by rw [List.length_set]; exact s.len, fun j q hj => ?_, fun j k d1 e b hjk h1 h2 h3 h4 => ?_, fun j d hj => ?_, s.base, s.wf⟩
  · by_cases z : j = i
    · subst z
      rw [List.getElem?_set_self hi] at hj
      cases hj
      rw [ha]
      exact .val r
    · rw [List.getElem?_set_ne (Ne.symm z)] at hj
      have q2 := s.slot j q hj
      generalize e : σ[j]?.getD none = w at q2
      cases q2 with
      | un => exact .un
      | val h => exact .val (h.mono (Ex.new hg))
      | bor h => exact .bor (h.mono (Ex.new hg) (Ex.refl _))
      | scr h => exact .scr h
      | pin => exact .pin
      | st h => exact .st h
      | @own d2 c k1 k2 k3 =>
        have ne : c ≠ a := by
          rintro rfl
          exact s.apart i j _ _ _ (fun z' => z z'.symm) h hj ha (getD_some e)
        refine .own k1 ?_ (k3.mono (Ex.new hg) (upd_ne ne))
        rw [upd_ne ne]
        exact k2
  · have own_of : ∀ {j : Nat} {e : PyData}, (ρ.set i (.val d))[j]? = some (.own e) → ρ[j]? = some (.own e) := fun {j e} q => by
      by_cases z : j = i
      · subst z; rw [List.getElem?_set_self hi] at q; cases q
      · rw [List.getElem?_set_ne (Ne.symm z)] at q; exact q
    exact s.apart j k _ _ b hjk (own_of h1) (own_of h2) h3 h4
  · by_cases z : j = i
    · subst z
      rw [List.getElem?_set_self hi] at hj; cases hj
    · rw [List.getElem?_set_ne (Ne.symm z)] at hj; exact (s.pins j d hj).imp fun a h => h.imp fun vs h => h.imp fun ds ⟨p1, p2, p3, p4⟩ => ⟨p1, p2, p3, p4.mono (Ex.new hg)⟩
theorem Sok.freeze (s : Sok K G0 H0 G ρ σ H) {i : Nat} (h : ρ[i]? = some (.own d)) : ∃ a u, H a = some u ∧ ((∃ G', Ex G G' ∧ Sok K G0 H0 G' (ρ.set i (.val d)) σ H) ∨ Mut (some u) ∧ ∀ od, ∃ G', Ex G G' ∧ Sok K G0 H0 G' (ρ.set i (.val d)) σ (upd H a (.frz od u))) := by
  obtain ⟨a, ha, hn, hg, ow⟩ := s.own h
  obtain ⟨u, hu, r⟩ := ow.freeze hg
  refine ⟨a, u, hu, r.imp (fun r => ⟨upd G a u, ?_⟩) fun ⟨mu, r⟩ => ⟨mu, fun od => ⟨_, s.freezeU h ha hn hg (r od)⟩⟩⟩
  have := s.freezeU (u := u) h ha hn hg (by assumption)
  rw [upd_id hu] at this
  exact this
end
end DV

namespace DV
open PySem L2
theorem _root_.L2.PE.imp {X : Cx} {e : Expr} {t t' : TE} (h : PE X e t) (w : ∀ σ H Q, t' σ H Q → t σ H Q) : PE X e t' := ⟨fun pins s σ H Q I q => h.run pins s σ H Q I (w σ H Q q)⟩
theorem _root_.L2.PT.imp {X : Cx} {e : Expr} {t t' : TT} (h : PT X e t) (w : ∀ σ H Q, t' σ H Q → t σ H Q) : PT X e t' := ⟨fun pins s σ H Q I q => h.run pins s σ H Q I (w σ H Q q)⟩
theorem _root_.L2.PW.imp {X : Cx} {e : Expr} {t t' : TT} (h : PW X e t) (w : ∀ σ H Q, t' σ H Q → t σ H Q) : PW X e t' := ⟨fun wh pins s σ H Q I q => h.run wh pins s σ H Q I (w σ H Q q)⟩
theorem _root_.L2.PA.imp {X : Cx} {e : List Expr} {t t' : TA} (h : PA X e t) (w : ∀ σ H Q, t' σ H Q → t σ H Q) : PA X e t' := ⟨fun pos pins s σ H Q I q => h.run pos pins s σ H Q I (w σ H Q q)⟩
theorem _root_.L2.PS.imp {X : Cx} {e : Stmt} {t t' : TS} (h : PS X e t) (w : ∀ D σ H, t' D σ H → t D σ H) : PS X e t' := ⟨fun pins s σ H D I q => h.run pins s σ H D I (w D σ H q)⟩
theorem _root_.L2.PSs.imp {X : Cx} {e : List Stmt} {t t' : TS} (h : PSs X e t) (w : ∀ D σ H, t' D σ H → t D σ H) : PSs X e t' := ⟨fun pins s σ H D I q => h.run pins s σ H D I (w D σ H q)⟩

/-! ### expressions, tests, arguments -/
def tE (K : PySem.W.Frag) (m : Md) (f : SE) : TE := fun σ H Q => ∃ G0 H0 G ρ d, Sok K G0 H0 G ρ σ H ∧ f ρ = some d ∧ ∀ G' H' v, Gx G H G' H' → RM K H0 H m G' H' d v → Q v H'
def tT (K : PySem.W.Frag) (f : SB) : TT := fun σ H Q => ∃ G0 H0 G ρ d, Sok K G0 H0 G ρ σ H ∧ f ρ = some d ∧ ∀ G' H', Gx G H G' H' → Q d H'
inductive RMs (K : PySem.W.Frag) (H0 Hs G H : Hp) : List Md → List PyData → List V → Prop
  | nil : RMs K H0 Hs G H [] [] []
  | cons {m : Md} {ms : List Md} {d : PyData} {ds : List PyData} {v : V} {vs : List V} : RM K H0 Hs m G H d v → RMs K H0 Hs G H ms ds vs → RMs K H0 Hs G H (m :: ms) (d :: ds) (v :: vs)
def tA (K : PySem.W.Frag) (ms : List Md) (f : SA) : TA := fun σ H Q => ∃ G0 H0 G ρ ds, Sok K G0 H0 G ρ σ H ∧ f ρ = some ds ∧ ∀ G' H' vs, Gx G H G' H' → RMs K H0 H G' H' ms ds vs → Q vs H'
structure DX (X : Cx) (m : Md) (e : Expr) (f : SE) : Prop where
  pe : PE X e (tE X.K m f)
structure DT (X : Cx) (e : Expr) (f : SB) : Prop where
  pt : PT X e (tT X.K f)
structure DW (X : Cx) (e : Expr) (f : SB) : Prop where
  pw : PW X e (tT X.K f)
structure DA (X : Cx) (ms : List Md) (es : List Expr) (f : SA) : Prop where
  pa : PA X es (tA X.K ms f)
section
variable {K : PySem.W.Frag} {G0 H0 G H G' H' Hs : Hp} {ρ : Rho} {σ : L2.St} {d : PyData} {v : V}
theorem RMs.mono (x : Gx G H G' H') : ∀ {ms : List Md} {ds : List PyData} {vs : List V}, RMs K H0 Hs G H ms ds vs → RMs K H0 Hs G' H' ms ds vs
  | _, _, _, .nil => .nil
  | _, _, _, .cons h t => .cons (h.mono x) (t.mono x)
theorem RMs.start {H1 : Hp} (e : Ex H1 Hs) : ∀ {ms : List Md} {ds : List PyData} {vs : List V}, RMs K H0 Hs G H ms ds vs → RMs K H0 H1 G H ms ds vs
  | _, _, _, .nil => .nil
  | _, _, _, .cons h t => .cons (h.start e) (t.start e)
theorem RMs.vals : ∀ {ms : List Md} {ds : List PyData} {vs : List V}, (∀ m ∈ ms, m = .val) → RMs K H0 Hs G H ms ds vs → RepA K G ds vs
  | _, _, _, _, .nil => .nil
  | m :: _, _, _, q, .cons h t => by
    have e : m = .val := q m List.mem_cons_self
    subst e
    exact .cons h (RMs.vals (fun m hm => q m (List.mem_cons_of_mem _ hm)) t)
end
section
variable {X : Cx} {e a b c : Expr} {m : Md} {f g h : SE} {pos : Pos}

/-! ### modes -/
/-- behind it a dict may be locked for good -/
def tFz (t : TE) : TE := fun σ H Q => t σ H fun x H1 => Q x H1 ∨ ∃ d u, H1 d = some u ∧ Mut (some u) ∧ ∀ od, Q x (upd H1 d (.frz od u))
theorem pe_fz {t : TE} (h : PE X e t) : PE X e (tFz t) := ⟨fun pins s σ H Q I q => thn (h.run pins s σ H _ I q) fun u s1 ⟨x, H1, I1, rx, q1⟩ => by
  rcases q1 with q1 | ⟨d, w, hd, mu, q1⟩
  · exact ⟨x, H1, I1, rx, q1⟩
  · obtain ⟨od, I2⟩ := I1.lock hd mu
    exact ⟨x, _, I2, rx, q1 od⟩⟩
theorem d_fz (h : DX X .new e f) : DX X .val e f := ⟨(pe_fz h.pe).imp fun σ H Q ⟨G0, H0, G, ρ, d, s, ed, q⟩ => ⟨G0, H0, G, ρ, d, s, ed, fun G' H' v x r => by
  obtain ⟨p, u, e1, e2, r⟩ := RM.freeze x r
  rcases r with ⟨G2, x2, _, r2⟩ | ⟨mu, r⟩
  · exact .inl (q G2 H' v x2 r2)
  · exact .inr ⟨p, u, e2, mu, fun od => (r od).elim fun G2 z => q G2 _ v z.1 z.2.2⟩⟩⟩
theorem d_b (h : DX X m e f) (hm : m ≠ .scr := by decide) : DX X .bor e f := ⟨h.pe.imp fun σ H Q ⟨G0, H0, G, ρ, d, s, ed, q⟩ => ⟨G0, H0, G, ρ, d, s, ed, fun G' H' v x r => q G' H' v x (r.bor hm (s.gx.h.trans x.h))⟩⟩

theorem if_some {c : Prop} [Decidable c] {α : Type} {a b : α} (h : (if c then some a else none) = some b) : c ∧ a = b := by
  split at h
  · exact ⟨by assumption, Option.some.inj h⟩
  · cases h
/-! ### names and constants -/
def eV (i : Nat) : SE := fun ρ => match ρ[i]? with
  | some (.val d) => some d
  | _ => none
def eB (i : Nat) : SE := fun ρ => match ρ[i]? with
  | some (.val d) => some d
  | some (.bor d) => some d
  | some (.own d) => some d
  | some (.pin d) => some d
  | _ => none
def eK (d : PyData) : SE := fun _ => some d
theorem d_var (i : Nat) {x : Str} {pos : Pos} (hN : X.N[i]? = some x := by rfl) (hv : Vis X.env.scope x := by first | exact Or.inl rfl | exact Or.inr (Or.inl rfl) | exact Or.inr (Or.inr rfl)) (hd : (x == ("__debug__" : Str)) = false := by decide)
    (hcd : (x == ("__classdict__" : Str)) = false := by decide) : DX X .val (.Name x pos) (eV i) := ⟨(pe_var hN hv hd hcd).imp fun σ H Q ⟨G0, H0, G, ρ, d, s, ed, q⟩ => by
  unfold eV at ed
  cases e1 : ρ[i]? with
  | none => rw [e1] at ed; cases ed
  | some t =>
    rw [e1] at ed
    have h := s.slot i t e1
    cases t with
    | val d' =>
      cases ed
      generalize e2 : σ[i]?.getD none = w at h
      cases h with
      | val h => exact ⟨_, getD_some e2, q G H _ (Gx.refl s.gx.gh) h⟩
    | un => cases ed
    | bor _ => cases ed
    | scr _ => cases ed
    | st _ => cases ed
    | own _ => cases ed
    | pin _ => cases ed⟩
theorem d_varb (i : Nat) {x : Str} {pos : Pos} (hN : X.N[i]? = some x := by rfl) (hv : Vis X.env.scope x := by first | exact Or.inl rfl | exact Or.inr (Or.inl rfl) | exact Or.inr (Or.inr rfl)) (hd : (x == ("__debug__" : Str)) = false := by decide)
    (hcd : (x == ("__classdict__" : Str)) = false := by decide) : DX X .bor (.Name x pos) (eB i) := ⟨(pe_var hN hv hd hcd).imp fun σ H Q ⟨G0, H0, G, ρ, d, s, ed, q⟩ => by
  unfold eB at ed
  cases e1 : ρ[i]? with
  | none => rw [e1] at ed; cases ed
  | some t =>
    rw [e1] at ed
    have h := s.slot i t e1
    generalize e2 : σ[i]?.getD none = w at h
    cases t with
    | un => cases ed
    | val d' =>
      cases ed
      cases h with
      | val h => exact ⟨_, getD_some e2, q G H _ (Gx.refl s.gx.gh) (.val h)⟩
    | bor d' =>
      cases ed
      cases h with
      | bor h => exact ⟨_, getD_some e2, q G H _ (Gx.refl s.gx.gh) (h.mono (Ex.refl _) (s.base.trans s.gx.h))⟩
    | scr _ => cases ed
    | st _ => cases ed
    | own d' =>
      cases ed
      cases h with
      | own h1 h2 h3 => exact ⟨_, getD_some e2, q G H _ (Gx.refl s.gx.gh) h3.bor⟩
    | pin d' =>
      cases ed
      obtain ⟨a, vs, ds, p1, p2, rfl, p4⟩ := s.pins i _ e1
      exact ⟨_, p2, q G H _ (Gx.refl s.gx.gh) (.lst (s.gx.h _ _ (s.wf _ _ _ p1)) p4)⟩⟩
/-- a name that holds an argument (or a frozen thing): it stays as it is through the call -/
def eP (i : Nat) : SE := fun ρ => match ρ[i]? with
  | some (.val d) => some d
  | some (.bor d) => some d
  | some (.pin d) => some d
  | _ => none
theorem d_varp (i : Nat) {x : Str} {pos : Pos} (hN : X.N[i]? = some x := by rfl) (hv : Vis X.env.scope x := by first | exact Or.inl rfl | exact Or.inr (Or.inl rfl) | exact Or.inr (Or.inr rfl)) (hd : (x == ("__debug__" : Str)) = false := by decide)
    (hcd : (x == ("__classdict__" : Str)) = false := by decide) : DX X .par (.Name x pos) (eP i) := ⟨(pe_var hN hv hd hcd).imp fun σ H Q ⟨G0, H0, G, ρ, d, s, ed, q⟩ => by
  unfold eP at ed
  cases e1 : ρ[i]? with
  | none => rw [e1] at ed; cases ed
  | some t =>
    rw [e1] at ed
    have h := s.slot i t e1
    generalize e2 : σ[i]?.getD none = w at h
    cases t with
    | un => cases ed
    | val d' =>
      cases ed
      cases h with
      | val h => exact ⟨_, getD_some e2, q G H _ (Gx.refl s.gx.gh) (.val h)⟩
    | bor d' =>
      cases ed
      cases h with
      | bor h => exact ⟨_, getD_some e2, q G H _ (Gx.refl s.gx.gh) (h.mono (Ex.refl _) s.base)⟩
    | scr _ => cases ed
    | st _ => cases ed
    | pin d' =>
      cases ed
      obtain ⟨a, vs, ds, p1, p2, rfl, p4⟩ := s.pins i _ e1
      exact ⟨_, p2, q G H _ (Gx.refl s.gx.gh) (.lst (s.wf _ _ _ p1) p4)⟩
    | own d' => cases ed⟩
/-- the script -/
def eS (i : Nat) : SE := fun ρ => match ρ[i]? with
  | some (.scr d) => some d
  | _ => none
theorem d_vars (i : Nat) {x : Str} {pos : Pos} (hN : X.N[i]? = some x := by rfl) (hv : Vis X.env.scope x := by first | exact Or.inl rfl | exact Or.inr (Or.inl rfl) | exact Or.inr (Or.inr rfl)) (hd : (x == ("__debug__" : Str)) = false := by decide)
    (hcd : (x == ("__classdict__" : Str)) = false := by decide) : DX X .scr (.Name x pos) (eS i) := ⟨(pe_var hN hv hd hcd).imp fun σ H Q ⟨G0, H0, G, ρ, d, s, ed, q⟩ => by
  unfold eS at ed
  split at ed
  · rename_i d' h
    cases ed
    have z := s.slot i _ h
    generalize e2 : σ[i]?.getD none = w at z
    cases z with
    | scr h => exact ⟨_, getD_some e2, q G H _ (Gx.refl s.gx.gh) (h.mono (s.base.trans s.gx.h))⟩
  · cases ed⟩
theorem d_const {v : V} {d : PyData} (h : PE X e (tC v)) (r : ∀ G, Rep X.K G d v) : DX X .val e (eK d) := ⟨h.imp fun σ H Q ⟨G0, H0, G, ρ, d', s, ed, q⟩ => by
  cases ed
  exact q G H v (Gx.refl s.gx.gh) (r G)⟩
theorem d_int {i j pos} : DX X .val (.Constant (.int i) j pos) (eK (.int i)) := d_const pe_int fun _ => .int i
theorem d_bl {b j pos} : DX X .val (.Constant (.bool b) j pos) (eK (.bool b)) := d_const pe_bl fun _ => .bl b
theorem d_non {j pos} : DX X .val (.Constant .none j pos) (eK .none) := d_const pe_non fun _ => .non
theorem d_str {x j pos} : DX X .val (.Constant (.str x) j pos) (eK (.str x)) := d_const pe_str fun _ => .str x

/-! ### operators -/
/-- a partial function on data that the rule r keeps -/
def OpF (K : PySem.W.Frag) (m : Md) (r : R2) (F : PyData → PyData → Option PyData) : Prop :=
  ∀ (G H : Hp) (d1 d2 d : PyData) (x y : V) (Q : VK), Ex G H → RepB K G H d1 x → RepB K G H d2 y → F d1 d2 = some d → (∀ G' H' v, Gx G H G' H' → (∀ H0, RM K H0 H m G' H' d v) → Q v H') → r x y H Q
def UnF (K : PySem.W.Frag) (m : Md) (r : V → Hp → VK → Prop) (F : PyData → Option PyData) : Prop :=
  ∀ (G H : Hp) (d1 d : PyData) (x : V) (Q : VK), Ex G H → RepB K G H d1 x → F d1 = some d → (∀ G' H' v, Gx G H G' H' → (∀ H0, RM K H0 H m G' H' d v) → Q v H') → r x H Q
def eOp (F : PyData → PyData → Option PyData) (f g : SE) : SE := fun ρ => (f ρ).bind fun x => (g ρ).bind fun y => F x y
def eUn (F : PyData → Option PyData) (f : SE) : SE := fun ρ => (f ρ).bind F
theorem bind_some {α β : Type} {o : Option α} {k : α → Option β} {b : β} (h : o.bind k = some b) : ∃ a, o = some a ∧ k a = some b := by
  cases o with
  | none => cases h
  | some a => exact ⟨a, rfl, h⟩
/-- the two places of an operator -/
theorem op_two {r : R2} {F : PyData → PyData → Option PyData} (hF : OpF X.K m r F) {σ : L2.St} {H : Hp} {Q : VK} (q : tE X.K m (eOp F f g) σ H Q) : tOp r (tE X.K .bor f) (tE X.K .bor g) σ H Q := by
  obtain ⟨G0, H0, G, ρ, d, s, ed, q⟩ := q
  obtain ⟨d1, e1, ed⟩ := bind_some ed
  obtain ⟨d2, e2, ed⟩ := bind_some ed
  refine ⟨G0, H0, G, ρ, d1, s, e1, fun G1 H1 x gx1 r1 => ⟨G0, H0, G1, ρ, d2, s.gx' gx1, e2, fun G2 H2 y gx2 r2 => ?_⟩⟩
  have gx := gx1.trans gx2
  exact hF G2 H2 d1 d2 d x y Q gx2.gh (RM.mono (m := .bor) (H0 := H0) (Hs := H) gx2 r1) r2 ed fun G3 H3 v gx3 r3 => q G3 H3 v (gx.trans gx3) ((r3 H0).start gx.h)
theorem d_op {op : Operator} {r : R2} {F : PyData → PyData → Option PyData} (ho : OpR X (binaryOp op) r) (hF : OpF X.K m r F) (ha : DX X .bor a f) (hb : DX X .bor b g) : DX X m (.BinOp a op b pos) (eOp F f g) :=
  ⟨(pe_op ho ha.pe hb.pe).imp fun _ _ _ q => op_two hF q⟩
theorem d_un {op : UnaryOp} {r : V → Hp → VK → Prop} {F : PyData → Option PyData} (ho : UnR X (unaryOp op) r) (hF : UnF X.K m r F) (ha : DX X .bor a f) : DX X m (.UnaryOp op a pos) (eUn F f) :=
  ⟨(pe_un ho ha.pe).imp fun σ H Q ⟨G0, H0, G, ρ, d, s, ed, q⟩ => by
    obtain ⟨d1, e1, ed⟩ := bind_some ed
    exact ⟨G0, H0, G, ρ, d1, s, e1, fun G1 H1 x gx1 r1 => hF G1 H1 d1 d x Q gx1.gh r1 ed fun G3 H3 v gx3 r3 => q G3 H3 v (gx1.trans gx3) ((r3 H0).start gx1.h)⟩⟩
theorem d_cmp {op : CmpOp} {r : R2} {F : PyData → PyData → Option PyData} (ho : OpR X (compareOp op) r) (hF : OpF X.K .val r F) (ha : DX X .bor a f) (hb : DX X .bor b g) (hm : behindInMarks op b = false) : DX X .val (.Compare a [op] [b] pos) (eOp F f g) :=
  ⟨(pe_cmpR ho ha.pe hb.pe hm).imp fun _ _ _ q => op_two hF q⟩
def asB : PyData → Option Bool
  | .bool b => some b
  | _ => none
def bT (f : SE) : SB := fun ρ => (f ρ).bind asB
theorem asB_some : ∀ {d : PyData} {k : Bool}, asB d = some k → d = .bool k
  | .bool _, _, h => congrArg _ (Option.some.inj h)
theorem tTest_of {t : TE} {f : SE} (w : ∀ σ H Q, tE X.K .val f σ H Q → t σ H Q) : ∀ σ H Q, tT X.K (bT f) σ H Q → tTest t σ H Q := fun σ H Q ⟨G0, H0, G, ρ, k, s, ed, q⟩ => by
  obtain ⟨d, e1, e2⟩ := bind_some ed
  cases asB_some e2
  exact w σ H _ ⟨G0, H0, G, ρ, _, s, e1, fun G' H' v gx r => by
    cases (show Rep X.K G' (.bool k) v from r)
    exact ⟨k, rfl, q G' H' gx⟩⟩
theorem t_cmp {op : CmpOp} {r : R2} {F : PyData → PyData → Option PyData} (ho : OpR X (compareOp op) r) (hF : OpF X.K .val r F) (ha : DX X .bor a f) (hb : DX X .bor b g) (hm : behindInMarks op b = false) : DT X (.Compare a [op] [b] pos) (bT (eOp F f g)) :=
  ⟨(pt_cmpR ho ha.pe hb.pe hm).imp (tTest_of fun _ _ _ q => op_two hF q)⟩
def eChain (F F' : PyData → PyData → Option PyData) (f g h : SE) : SE := fun ρ => (f ρ).bind fun x => (g ρ).bind fun y => (F x y).bind fun z => match z with
  | .bool true => (h ρ).bind fun w => F' y w
  | .bool false => some (.bool false)
  | _ => none
/-! ### truth; and, or, not -/
def truth : PyData → Option Bool
  | .none => some false
  | .bool b => some b
  | .int i => some (i != 0)
  | .str x => if x.length ≤ sizeLine then some ((x.length : Int) != 0) else none
  | .list xs => some (!xs.isEmpty)
  | .tuple xs => some (!xs.isEmpty)
  | _ => none
theorem RepA.isEmpty {K : PySem.W.Frag} {G : Hp} {ds : List PyData} {vs : List V} (r : RepA K G ds vs) : vs.isEmpty = ds.isEmpty := by cases r <;> rfl
theorem truth_ok {K : PySem.W.Frag} {G H : Hp} (e : Ex G H) {d : PyData} {x : V} {k : Bool} (r : RepB K G H d x) (h : truth d = some k) : TruV K x H k := by
  cases r with
  | lst hl ra =>
    cases h
    exact .inl ⟨_, SqL.of hl, by rw [ra.isEmpty]⟩
  | dK _ _ _ => cases h
  | dT _ _ _ => cases h
  | val r =>
    cases r with
    | non => cases h; rfl
    | bl b => cases h; rfl
    | int i => cases h; rfl
    | str y =>
      have h' : (if y.length ≤ sizeLine then some ((y.length : Int) != 0) else none) = some k := h
      obtain ⟨h1, h2⟩ := if_some h'
      exact ⟨h1, h2.symm⟩
    | lst hl ra =>
      cases h
      exact .inl ⟨_, .inl (e.rd hl), by rw [ra.isEmpty]⟩
    | tup hl ra =>
      cases h
      exact .inr (.inl ⟨_, e.sqt (sqtOf hl), by rw [ra.isEmpty]⟩)
    | dK _ _ _ => cases h
    | dT _ _ _ => cases h
def bV (f : SE) : SB := fun ρ => (f ρ).bind truth
theorem t_val (ha : DX X .bor a f) (he : ∀ whole, isTrue a X.env whole = (do let v ← whole; standAt a.pos; holding [v] (truthy v)) := by intro _; rfl) : DT X a (bV f) :=
  ⟨(pt_truth ha.pe he).imp fun σ H Q ⟨G0, H0, G, ρ, k, s, ed, q⟩ => by
    obtain ⟨d, e1, e2⟩ := bind_some ed
    exact ⟨G0, H0, G, ρ, d, s, e1, fun G' H' v gx r => ⟨k, truth_ok gx.gh r e2, q G' H' gx⟩⟩⟩
def bAnd (f g : SB) : SB := fun ρ => (f ρ).bind fun k => if k = true then g ρ else some false
def bOr (f g : SB) : SB := fun ρ => (f ρ).bind fun k => if k = true then some true else g ρ
def bNot (f : SB) : SB := fun ρ => (f ρ).map fun k => !k
variable {rest : List Expr} {t u : SB}
theorem w_and1 (ha : DT X a t) : DW X (.BoolOp .And [a] pos) t := ⟨pw_and1 ha.pt⟩
theorem w_or1 (ha : DT X a t) : DW X (.BoolOp .Or [a] pos) t := ⟨pw_or1 ha.pt⟩
theorem w_and (ha : DT X a t) (hb : DW X (.BoolOp .And (b :: rest) pos) u) : DW X (.BoolOp .And (a :: b :: rest) pos) (bAnd t u) :=
  ⟨(pw_and ha.pt hb.pw).imp fun σ H Q ⟨G0, H0, G, ρ, k, s, ed, q⟩ => by
    obtain ⟨k1, e1, e2⟩ := bind_some ed
    refine ⟨G0, H0, G, ρ, k1, s, e1, fun G' H' gx => ?_⟩
    cases k1 with
    | true => exact iteT ⟨G0, H0, G', ρ, k, s.gx' gx, e2, fun G2 H2 gx2 => q G2 H2 (gx.trans gx2)⟩
    | false => cases e2; exact iteF (q G' H' gx)⟩
theorem w_or (ha : DT X a t) (hb : DW X (.BoolOp .Or (b :: rest) pos) u) : DW X (.BoolOp .Or (a :: b :: rest) pos) (bOr t u) :=
  ⟨(pw_or ha.pt hb.pw).imp fun σ H Q ⟨G0, H0, G, ρ, k, s, ed, q⟩ => by
    obtain ⟨k1, e1, e2⟩ := bind_some ed
    refine ⟨G0, H0, G, ρ, k1, s, e1, fun G' H' gx => ?_⟩
    cases k1 with
    | false => exact iteF ⟨G0, H0, G', ρ, k, s.gx' gx, e2, fun G2 H2 gx2 => q G2 H2 (gx.trans gx2)⟩
    | true => cases e2; exact iteT (q G' H' gx)⟩
theorem t_w (h : DW X e t) : DT X e t := ⟨h.pw.pt⟩
theorem t_not (ha : DT X a t) : DT X (.UnaryOp .Not a pos) (bNot t) :=
  ⟨(pt_not ha.pt).imp fun σ H Q ⟨G0, H0, G, ρ, k, s, ed, q⟩ => by
    cases e : t ρ with
    | none => rw [bNot, e] at ed; cases ed
    | some k1 =>
      rw [bNot, e] at ed
      cases ed
      exact ⟨G0, H0, G, ρ, k1, s, e, fun G' H' gx => q G' H' gx⟩⟩
/-- .. as values -/
def eAnd (f g : SE) : SE := fun ρ => (f ρ).bind fun x => (truth x).bind fun k => if k = true then g ρ else some x
def eOr (f g : SE) : SE := fun ρ => (f ρ).bind fun x => (truth x).bind fun k => if k = true then some x else g ρ
def eNot (f : SE) : SE := fun ρ => (f ρ).bind fun x => (truth x).map fun k => .bool !k
theorem d_one {op} (h : DX X m a f) : DX X m (.BoolOp op [a] pos) f := ⟨pe_one h.pe⟩
theorem d_and (ha : DX X .val a f) (hb : DX X .val (.BoolOp .And (b :: rest) pos) g) : DX X .val (.BoolOp .And (a :: b :: rest) pos) (eAnd f g) :=
  ⟨(pe_andT ha.pe hb.pe).imp fun σ H Q ⟨G0, H0, G, ρ, d, s, ed, q⟩ => by
    obtain ⟨d1, e1, ed⟩ := bind_some ed
    obtain ⟨k1, e2, ed⟩ := bind_some ed
    refine ⟨G0, H0, G, ρ, d1, s, e1, fun G' H' v gx r => ⟨k1, truth_ok gx.gh (.val r) e2, ?_⟩⟩
    cases k1 with
    | true => exact iteT ⟨G0, H0, G', ρ, d, s.gx' gx, ed, fun G2 H2 v gx2 r => q G2 H2 v (gx.trans gx2) r⟩
    | false => cases ed; exact iteF (q G' H' v gx r)⟩
theorem d_not (ha : DX X .bor a f) : DX X .val (.UnaryOp .Not a pos) (eNot f) :=
  ⟨(pe_notT ha.pe).imp fun σ H Q ⟨G0, H0, G, ρ, d, s, ed, q⟩ => by
    obtain ⟨d1, e1, ed⟩ := bind_some ed
    cases e2 : truth d1 with
    | none => rw [e2] at ed; cases ed
    | some k =>
      rw [e2] at ed
      cases ed
      exact ⟨G0, H0, G, ρ, d1, s, e1, fun G' H' v gx r => ⟨k, truth_ok gx.gh r e2, q G' H' _ gx (.bl _)⟩⟩⟩
/-- a if t else b -/
def eIf (t : SB) (f g : SE) : SE := fun ρ => (t ρ).bind fun k => if k = true then f ρ else g ρ
theorem d_if (hc : DT X c t) (ha : DX X m a f) (hb : DX X m b g) : DX X m (.IfExp c a b pos) (eIf t f g) :=
  ⟨(pe_ifExp hc.pt ha.pe hb.pe).imp fun σ H Q ⟨G0, H0, G, ρ, d, s, ed, q⟩ => by
    obtain ⟨k1, e1, ed⟩ := bind_some ed
    refine ⟨G0, H0, G, ρ, k1, s, e1, fun G' H' gx => ?_⟩
    cases k1 with
    | true => exact iteT ⟨G0, H0, G', ρ, d, s.gx' gx, ed, fun G2 H2 v gx2 r => q G2 H2 v (gx.trans gx2) (r.start gx.h)⟩
    | false => exact iteF ⟨G0, H0, G', ρ, d, s.gx' gx, ed, fun G2 H2 v gx2 r => q G2 H2 v (gx.trans gx2) (r.start gx.h)⟩⟩

/-! ### argument lists and displays -/
def aNil : SA := fun _ => some []
def aCons (f : SE) (r : SA) : SA := fun ρ => (f ρ).bind fun d => (r ρ).bind fun ds => some (d :: ds)
variable {es : List Expr} {ms : List Md} {r : SA}
theorem a_nil : DA X [] [] aNil := ⟨pa_nil.imp fun σ H Q ⟨G0, H0, G, ρ, d, s, ed, q⟩ => by
  cases ed
  exact q G H [] (Gx.refl s.gx.gh) .nil⟩
theorem a_cons (ha : DX X m e f) (hr : DA X ms es r) (hs : starEach (e :: es) X.env = (false, eval e X.env) :: starEach es X.env := by rfl) : DA X (m :: ms) (e :: es) (aCons f r) :=
  ⟨(pa_cons ha.pe hr.pa hs).imp fun σ H Q ⟨G0, H0, G, ρ, d, s, ed, q⟩ => by
    obtain ⟨d1, e1, ed⟩ := bind_some ed
    obtain ⟨ds, e2, ed⟩ := bind_some ed
    cases ed
    refine ⟨G0, H0, G, ρ, d1, s, e1, fun G1 H1 x gx1 r1 => ⟨G0, H0, G1, ρ, ds, s.gx' gx1, e2, fun G2 H2 vs gx2 r2 => ?_⟩⟩
    exact q G2 H2 _ (gx1.trans gx2) (.cons (r1.mono gx2) (r2.start gx1.h))⟩
def eTup (r : SA) : SE := fun ρ => (r ρ).bind fun ds => if ds.length ≤ sizeLine then some (.tuple ds) else none
def eLst (r : SA) : SE := fun ρ => (r ρ).bind fun ds => if ds.length ≤ sizeLine then some (.list ds) else none
theorem d_tup {x1} (h : DA X ms es r) (hm : ∀ m ∈ ms, m = .val) : DX X .val (.Tuple es x1 pos) (eTup r) :=
  ⟨(pe_tup h.pa).imp fun σ H Q ⟨G0, H0, G, ρ, d, s, ed, q⟩ => by
    obtain ⟨ds, e1, ed⟩ := bind_some ed
    obtain ⟨hl, rfl⟩ := if_some ed
    refine ⟨G0, H0, G, ρ, ds, s, e1, fun G1 H1 vs gx1 r1 => ?_⟩
    have ra := r1.vals hm
    refine ⟨by rw [← ra.len]; exact hl, fun p np => ?_⟩
    exact q _ _ _ (gx1.trans (Gx.new gx1.gh np)) (.tup upd_same (ra.mono (Ex.new (gx1.gh.back np))))⟩
theorem d_lst (h : DA X ms es r) (hm : ∀ m ∈ ms, m = .val) : DX X .new (.List es pos) (eLst r) :=
  ⟨(pe_lst h.pa).imp fun σ H Q ⟨G0, H0, G, ρ, d, s, ed, q⟩ => by
    obtain ⟨ds, e1, ed⟩ := bind_some ed
    obtain ⟨hl, rfl⟩ := if_some ed
    refine ⟨G0, H0, G, ρ, ds, s, e1, fun G1 H1 vs gx1 r1 => ?_⟩
    have ra := r1.vals hm
    refine ⟨by rw [← ra.len]; exact hl, fun p np => ?_⟩
    exact q _ _ _ (gx1.trans (Gx.mine gx1.gh np)) ⟨p, rfl, gx1.h.back np, gx1.gh.back np, .lst upd_same ra⟩⟩
end
end DV

namespace DV
open PySem L2

theorem ite_some {c : Prop} [Decidable c] {α : Type} {a : Option α} {b : α} (h : (if c then a else none) = some b) : c ∧ a = some b := by
  split at h
  · exact ⟨by assumption, h⟩
  · cases h
/-! ### what is walked -/
abbrev SI := Rho → Option (List PyData)
structure WalkD (K : PySem.W.Frag) (B G : Hp) (J : It) (ds : List PyData) : Prop where
  goes : ∀ i G2 H2, i < ds.length → Ex G G2 → Ex G2 H2 → Ex B H2 → J.go i H2
  stops : ∀ G2 H2, Ex G G2 → Ex G2 H2 → Ex B H2 → J.stop ds.length H2
  yields : ∀ i d G2 H2 x H3, ds[i]? = some d → Ex G G2 → Ex G2 H2 → Ex B H2 → J.yld i H2 x H3 → ∃ G3, Gx G2 H2 G3 H3 ∧ Rep K G3 d x
def tI (K : PySem.W.Frag) (wide : Bool) (f : SI) : TI := fun σ H R => ∃ G0 H0 G ρ ds, Sok K G0 H0 G ρ σ H ∧ f ρ = some ds ∧ ∀ G' H' J, Gx G H G' H' → WalkD K (if wide = true then H' else H0) G' J ds → R J H'
structure DI (X : Cx) (tg iter : Expr) (wide : Bool) (f : SI) : Prop where
  pi : PI X tg iter (tI X.K wide f)
theorem _root_.L2.PI.imp {X : Cx} {tg e : Expr} {t t' : TI} (h : PI X tg e t) (w : ∀ σ H Q, t' σ H Q → t σ H Q) : PI X tg e t' := ⟨fun pins s σ H Q I q => h.run pins s σ H Q I (w σ H Q q)⟩
def itemsOf : PyData → Option (List PyData)
  | .list ds => some ds
  | .tuple ds => some ds
  | .str z => some (z.cps.toList.map fun c => .str ⟨#[c]⟩)
  | _ => none
/-- a list, a tuple or a text, by what it is -/
def iAny (K : PySem.W.Frag) (te : TE) : TI := fun σ H R => te σ H fun x H1 =>
  (∃ a, x = .ref a ∧ (∃ xs, SqL K H1 a xs) ∧ R (Itl K a) H1) ∨ (∃ a, x = .ref a ∧ (∃ xs, SqT K H1 a xs) ∧ R (Itt K a) H1) ∨ ∃ z, x = .str z ∧ R (Its z) H1
theorem pi_any {X : Cx} {tg l : Expr} {tl : TE} (hl : PE X l tl) : PI X tg l (iAny X.K tl) := by
  refine ⟨fun pins s σ H R I h => ?_⟩
  refine thn (hl.run pins s σ H _ I h) fun v s1 ⟨x, H1, I1, r1, q1⟩ => ?_
  rcases q1 with ⟨a, e, ⟨xs, hq⟩, q⟩ | ⟨a, e, ⟨xs, hq⟩, q⟩ | ⟨z, e, q⟩
  · subst e
    cases r1
    obtain ⟨its, rv, p, hz⟩ := I1.list hq
    refine wpAny_pyIter_list p.isList ?_
    refine ⟨s1.heap.objs.size, [s1.heap.objs.size], _, _, H1, rfl, I1.kept (t' := s1.toks) fun b o e => Heap.get?_push_of_some _ e, turn_list a _, ⟨_, Heap.get?_push_size _ rfl, rfl, rfl⟩, fun b hb => ?_, q⟩
    have e : b = s1.heap.objs.size := by simpa using hb
    subst e
    exact I1.fpOk (Nat.le_refl _) (I1.hok.fresh (Nat.le_refl _))
  · subst e
    cases r1
    obtain ⟨its, rv, p, hz⟩ := I1.tuple hq
    refine wpAny_pyIter_tuple (show s1.heap.IsTuple a its.toArray from p) ?_
    refine ⟨s1.heap.objs.size, [s1.heap.objs.size], _, _, H1, rfl, I1.kept (t' := s1.toks) fun b o e => Heap.get?_push_of_some _ e, turn_tuple a _, ⟨_, Heap.get?_push_size _ rfl, rfl, rfl⟩, fun b hb => ?_, q⟩
    have e : b = s1.heap.objs.size := by simpa using hb
    subst e
    exact I1.fpOk (Nat.le_refl _) (I1.hok.fresh (Nat.le_refl _))
  · subst e
    obtain ⟨t, rfl⟩ := r1
    cases ha : z.cps.all (· < 128)
    · exact wpAny_pyIter_wide ha (pi_one (tk := s1.toks) I1 _ (turn_str _ z t "str_iterator" (.inr rfl)) ⟨_, Heap.get?_push_size _ rfl, rfl, rfl⟩ q)
    · exact wpAny_pyIter_ascii ha (pi_one (tk := s1.toks) I1 _ (turn_str _ z t "str_ascii_iterator" (.inl rfl)) ⟨_, Heap.get?_push_size _ rfl, rfl, rfl⟩ q)
section
variable {K : PySem.W.Frag} {B G0 H0 G H G' H' : Hp} {ρ : Rho} {σ : L2.St} {d : PyData} {ds : List PyData} {vs : List V} {a : Addr}
theorem WalkD.list (st : ∀ H2, Ex G H2 → Ex B H2 → SqL K H2 a vs) (r : RepA K G ds vs) : WalkD K B G (Itl K a) ds where
  goes := fun i G2 H2 hi g1 g2 b => by
    have q := st H2 (g1.trans g2) b
    rw [r.len] at hi
    exact ⟨vs, _, q, List.getElem?_eq_getElem hi⟩
  stops := fun G2 H2 g1 g2 b => ⟨vs, st H2 (g1.trans g2) b, by rw [r.len]; exact Nat.le_refl _⟩
  yields := fun i d G2 H2 x H3 hi g1 g2 b y => by
    obtain ⟨rfl, hy⟩ := y
    obtain ⟨v, h1, h2⟩ := r.get hi
    have := hy vs (st _ (g1.trans g2) b)
    rw [h1] at this; cases this
    exact ⟨G2, Gx.refl g2, h2.mono g1⟩
theorem WalkD.tup (st : ∀ H2, Ex G H2 → Ex B H2 → SqT K H2 a vs) (r : RepA K G ds vs) : WalkD K B G (Itt K a) ds where
  goes := fun i G2 H2 hi g1 g2 b => by
    have q := st H2 (g1.trans g2) b
    rw [r.len] at hi
    exact ⟨vs, _, q, List.getElem?_eq_getElem hi⟩
  stops := fun G2 H2 g1 g2 b => ⟨vs, st H2 (g1.trans g2) b, by rw [r.len]; exact Nat.le_refl _⟩
  yields := fun i d G2 H2 x H3 hi g1 g2 b y => by
    obtain ⟨rfl, hy⟩ := y
    obtain ⟨v, h1, h2⟩ := r.get hi
    have := hy vs (st _ (g1.trans g2) b)
    rw [h1] at this; cases this
    exact ⟨G2, Gx.refl g2, h2.mono g1⟩
theorem WalkD.str {z : Str} : WalkD K B G (Its z) (z.cps.toList.map fun c => .str ⟨#[c]⟩) where
  goes := fun i G2 H2 hi g1 g2 b => by
    show i < z.cps.size
    simpa using hi
  stops := fun G2 H2 g1 g2 b => by
    show z.cps.size ≤ _
    simp
  yields := fun i d G2 H2 x H3 hi g1 g2 b y => by
    obtain ⟨rfl, c, hc, rfl⟩ := y
    rw [List.getElem?_map, Array.getElem?_toList, hc] at hi
    cases hi
    exact ⟨G2, Gx.refl g2, .str _⟩
/-- the pairs that enumerate gives -/
def enumD : Nat → List PyData → List PyData
  | _, [] => []
  | n, d :: ds => .tuple [.int (n : Nat), d] :: enumD (n + 1) ds
def zipD : List PyData → List PyData → List PyData
  | x :: xs, y :: ys => .tuple [x, y] :: zipD xs ys
  | _, _ => []
theorem zipD_len : ∀ xs ys : List PyData, (zipD xs ys).length = min xs.length ys.length
  | [], _ => by simp [zipD]
  | _ :: _, [] => by simp [zipD]
  | x :: xs, y :: ys => by
    show (zipD xs ys).length + 1 = min (xs.length + 1) (ys.length + 1)
    rw [zipD_len xs ys]; omega
theorem zipD_get : ∀ (xs ys : List PyData) (i : Nat) (d : PyData), (zipD xs ys)[i]? = some d → ∃ x y, xs[i]? = some x ∧ ys[i]? = some y ∧ d = .tuple [x, y]
  | [], _, i, d, h => by simp [zipD] at h
  | _ :: _, [], i, d, h => by simp [zipD] at h
  | x :: xs, y :: ys, 0, d, h => ⟨x, y, rfl, rfl, (Option.some.inj h).symm⟩
  | x :: xs, y :: ys, i + 1, d, h => zipD_get xs ys i d h
theorem WalkD.zip {a b : Addr} {us : List V} {es : List PyData} (st : ∀ H2, Ex G H2 → Ex B H2 → SqL K H2 a vs) (st2 : ∀ H2, Ex G H2 → Ex B H2 → SqL K H2 b us) (r : RepA K G ds vs) (r2 : RepA K G es us) : WalkD K B G (Itz K a b) (zipD ds es) where
  goes := fun i G2 H2 hi g1 g2 b => by
    rw [zipD_len, r.len, r2.len] at hi
    exact ⟨vs, us, _, _, st H2 (g1.trans g2) b, st2 H2 (g1.trans g2) b, List.getElem?_eq_getElem (by omega), List.getElem?_eq_getElem (by omega)⟩
  stops := fun G2 H2 g1 g2 b => ⟨vs, us, st H2 (g1.trans g2) b, st2 H2 (g1.trans g2) b, by rw [zipD_len, r.len, r2.len]; omega⟩
  yields := fun i d G2 H2 x H3 hi g1 g2 b y => by
    obtain ⟨T, x', y', rfl, nT, rfl, hx, hy⟩ := y
    obtain ⟨d1, d2, e1, e2, rfl⟩ := zipD_get _ _ _ _ hi
    obtain ⟨v, h1, h2⟩ := r.get e1
    obtain ⟨u, k1, k2⟩ := r2.get e2
    have := hx vs (st _ (g1.trans g2) b)
    rw [h1] at this; cases this
    have := hy us (st2 _ (g1.trans g2) b)
    rw [k1] at this; cases this
    exact ⟨_, Gx.new g2 nT, .tup upd_same (.cons (h2.mono (g1.trans (Ex.new (g2.back nT)))) (.cons (k2.mono (g1.trans (Ex.new (g2.back nT)))) .nil))⟩
def rangeD (lo : Int) (n : Nat) : List PyData := (List.range n).map fun i => .int (lo + (i : Nat))
theorem rangeD_len (lo : Int) (n : Nat) : (rangeD lo n).length = n := by simp [rangeD]
theorem WalkD.range {lo : Int} {n : Nat} : WalkD K B G (Itr lo n) (rangeD lo n) where
  goes := fun i G2 H2 hi _ _ _ => by rw [rangeD_len] at hi; exact hi
  stops := fun G2 H2 _ _ _ => by rw [rangeD_len]; exact Nat.le_refl _
  yields := fun i d G2 H2 x H3 hi _ g2 _ y => by
    obtain ⟨rfl, rfl⟩ := y
    unfold rangeD at hi
    rw [List.getElem?_map] at hi
    cases e : (List.range n)[i]? with
    | none => rw [e] at hi; cases hi
    | some j =>
      rw [e] at hi
      cases hi
      have : j = i := by
        obtain ⟨h1, h2⟩ := List.getElem?_eq_some_iff.mp e
        rw [← h2]; simp
      subst this
      exact ⟨G2, Gx.refl g2, .int _⟩
def rangeC (lo c : Int) (n : Nat) : List PyData := (List.range n).map fun i => .int (lo + (i : Nat) * c)
theorem rangeC_len (lo c : Int) (n : Nat) : (rangeC lo c n).length = n := by simp [rangeC]
theorem WalkD.rangeC {lo c : Int} {n : Nat} : WalkD K B G (Itc lo c n) (rangeC lo c n) where
  goes := fun i G2 H2 hi _ _ _ => by rw [rangeC_len] at hi; exact hi
  stops := fun G2 H2 _ _ _ => by rw [rangeC_len]; exact Nat.le_refl _
  yields := fun i d G2 H2 x H3 hi _ g2 _ y => by
    obtain ⟨rfl, rfl⟩ := y
    unfold DV.rangeC at hi
    rw [List.getElem?_map] at hi
    cases e : (List.range n)[i]? with
    | none => rw [e] at hi; cases hi
    | some j =>
      rw [e] at hi
      cases hi
      have : j = i := by
        obtain ⟨h1, h2⟩ := List.getElem?_eq_some_iff.mp e
        rw [← h2]; simp
      subst this
      exact ⟨G2, Gx.refl g2, .int _⟩
end
/-- reading a list, whatever mode -/
theorem RepB.seq {K : PySem.W.Frag} {G B : Hp} {ds : List PyData} {v : V} (h : RepB K G B (.list ds) v) : ∃ a vs, v = .ref a ∧ (∀ H2, Ex G H2 → Ex B H2 → Rd H2 a (.lst vs)) ∧ RepA K G ds vs := by
  cases h with
  | val h =>
    cases h with
    | lst h r => exact ⟨_, _, rfl, fun H2 g _ => g.rd h, r⟩
  | lst h r => exact ⟨_, _, rfl, fun H2 _ b => .inl (b _ _ h), r⟩
theorem RepB.seqT {K : PySem.W.Frag} {G B : Hp} {ds : List PyData} {v : V} (h : RepB K G B (.tuple ds) v) : ∃ a vs, v = .ref a ∧ (∀ H2, Ex G H2 → SqT K H2 a vs) ∧ RepA K G ds vs := by
  cases h with
  | val h =>
    cases h with
    | tup h r => exact ⟨_, _, rfl, fun H2 g => g.sqt (sqtOf h), r⟩
theorem RepB.str {K : PySem.W.Frag} {G B : Hp} {z : Str} {v : V} (h : RepB K G B (.str z) v) : v = .str z := by
  cases h with
  | val h => cases h; rfl
theorem RepB.int {K : PySem.W.Frag} {G B : Hp} {z : Int} {v : V} (h : RepB K G B (.int z) v) : v = .int z := by
  cases h with
  | val h => cases h; rfl
theorem RepB.bl {K : PySem.W.Frag} {G B : Hp} {z : Bool} {v : V} (h : RepB K G B (.bool z) v) : v = .bl z := by
  cases h with
  | val h => cases h; rfl
theorem RepB.non {K : PySem.W.Frag} {G B : Hp} {v : V} (h : RepB K G B .none v) : v = .non := by
  cases h with
  | val h => cases h; rfl
section
variable {X : Cx} {tg e a b c : Expr} {f g h : SE} {pos p tpos : Pos} {elts : List Expr} {kk : Nat}
def sSeq (f : SE) : SI := fun ρ => (f ρ).bind itemsOf
theorem any_of {K : PySem.W.Frag} {B G' H' : Hp} {d : PyData} {ds : List PyData} {v : V} {R : It → Hp → Prop} (gh : Ex G' H') (bh : Ex B H') (r : RepB K G' B d v) (e2 : itemsOf d = some ds)
    (q : ∀ J, WalkD K B G' J ds → R J H') : (∃ a, v = .ref a ∧ (∃ xs, SqL K H' a xs) ∧ R (Itl K a) H') ∨ (∃ a, v = .ref a ∧ (∃ xs, SqT K H' a xs) ∧ R (Itt K a) H') ∨ ∃ z, v = .str z ∧ R (Its z) H' := by
  cases d with
  | list l =>
    cases e2
    obtain ⟨a, vs, rfl, st, ra⟩ := r.seq
    exact .inl ⟨a, rfl, ⟨vs, .inl (st _ gh bh)⟩, q _ (WalkD.list (fun H2 x y => .inl (st H2 x y)) ra)⟩
  | tuple l =>
    cases e2
    obtain ⟨a, vs, rfl, st, ra⟩ := r.seqT
    exact .inr (.inl ⟨a, rfl, ⟨vs, st _ gh⟩, q _ (WalkD.tup (fun H2 g _ => st H2 g) ra)⟩)
  | str z =>
    cases e2
    cases r.str
    exact .inr (.inr ⟨z, rfl, q _ WalkD.str⟩)
  | _ => cases e2
theorem i_val (ha : DX X .val e f) : DI X tg e false (sSeq f) := ⟨(pi_any ha.pe).imp fun σ H R ⟨G0, H0, G, ρ, ds, s, ed, q⟩ => by
  obtain ⟨d, e1, e2⟩ := bind_some ed
  exact ⟨G0, H0, G, ρ, d, s, e1, fun G' H' v gx r => any_of gx.gh (s.gx.h.trans gx.h) (.val r) e2 fun J w => q G' H' J gx w⟩⟩
theorem i_par (ha : DX X .par e f) : DI X tg e false (sSeq f) := ⟨(pi_any ha.pe).imp fun σ H R ⟨G0, H0, G, ρ, ds, s, ed, q⟩ => by
  obtain ⟨d, e1, e2⟩ := bind_some ed
  exact ⟨G0, H0, G, ρ, d, s, e1, fun G' H' v gx r => any_of gx.gh (s.gx.h.trans gx.h) r e2 fun J w => q G' H' J gx w⟩⟩
theorem i_bor (ha : DX X .bor e f) : DI X tg e true (sSeq f) := ⟨(pi_any ha.pe).imp fun σ H R ⟨G0, H0, G, ρ, ds, s, ed, q⟩ => by
  obtain ⟨d, e1, e2⟩ := bind_some ed
  exact ⟨G0, H0, G, ρ, d, s, e1, fun G' H' v gx r => any_of gx.gh (Ex.refl _) r e2 fun J w => q G' H' J gx w⟩⟩
def rng1 : List PyData → Option (List PyData)
  | [.int j] => if -(2 ^ 62) ≤ j ∧ j < 2 ^ 62 then some (rangeD 0 j.toNat) else none
  | _ => none
def rng2 : List PyData → Option (List PyData)
  | [.int i, .int j] => if -(2 ^ 62) ≤ i ∧ i < 2 ^ 62 ∧ -(2 ^ 62) ≤ j ∧ j < 2 ^ 62 then some (rangeD i (j - i).toNat) else none
  | _ => none
def sArgs (F : List PyData → Option (List PyData)) (r : SA) : SI := fun ρ => (r ρ).bind F
theorem RM.stay {K : PySem.W.Frag} {H0 Hs G H : Hp} {m : Md} {d : PyData} {v : V} (hmd : m = .val ∨ m = .par) (h : RM K H0 Hs m G H d v) : RepB K G H0 d v := by
  rcases hmd with rfl | rfl
  · exact .val h
  · exact h
theorem RMs.one {K : PySem.W.Frag} {H0 Hs G H : Hp} {m : Md} {d : PyData} {vs : List V} (h : RMs K H0 Hs G H [m] [d] vs) : ∃ v, vs = [v] ∧ RM K H0 Hs m G H d v := by
  cases h with
  | cons h t => cases t; exact ⟨_, rfl, h⟩
theorem RMs.two {K : PySem.W.Frag} {H0 Hs G H : Hp} {m m' : Md} {d d' : PyData} {vs : List V} (h : RMs K H0 Hs G H [m, m'] [d, d'] vs) : ∃ v v', vs = [v, v'] ∧ RM K H0 Hs m G H d v ∧ RM K H0 Hs m' G H d' v' := by
  cases h with
  | cons h t =>
    obtain ⟨w, rfl, h2⟩ := t.one
    exact ⟨_, _, rfl, h, h2⟩
theorem RMs.three {K : PySem.W.Frag} {H0 Hs G H : Hp} {m m' m2 : Md} {d d' d2 : PyData} {vs : List V} (h : RMs K H0 Hs G H [m, m', m2] [d, d', d2] vs) : ∃ v v' v2, vs = [v, v', v2] ∧ RM K H0 Hs m G H d v ∧ RM K H0 Hs m' G H d' v' ∧ RM K H0 Hs m2 G H d2 v2 := by
  cases h with
  | cons h t =>
    obtain ⟨w, w2, rfl, h2, h3⟩ := t.two
    exact ⟨_, _, _, rfl, h, h2, h3⟩
theorem i_range1 {r : SA} (hg : Gl X "range") (hm : X.mg "range" = none) (ha : DA X [.val] [a] r) (hs : starEach [a] X.env = [(false, eval a X.env)] := by rfl) : DI X tg (.Call (.Name "range" p) [a] [] pos) false (sArgs rng1 r) :=
  ⟨(pi_range1 hg hm ha.pa hs).imp fun σ H R ⟨G0, H0, G, ρ, ds, s, ed, q⟩ => by
    obtain ⟨l, e1, e2⟩ := bind_some ed
    refine ⟨G0, H0, G, ρ, l, s, e1, fun G' H' vs gx r => ?_⟩
    unfold rng1 at e2
    split at e2
    · obtain ⟨⟨h1, h2⟩, rfl⟩ := if_some e2
      obtain ⟨v, rfl, r1⟩ := r.one
      cases (show Rep X.K G' (.int _) v from r1)
      exact ⟨_, rfl, h1, h2, q G' H' _ gx WalkD.range⟩
    · cases e2⟩
theorem i_range2 {r : SA} (hg : Gl X "range") (hm : X.mg "range" = none) (ha : DA X [.val, .val] [a, b] r) (hs : starEach [a, b] X.env = [(false, eval a X.env), (false, eval b X.env)] := by rfl) (hs2 : starEach [b] X.env = [(false, eval b X.env)] := by rfl) :
    DI X tg (.Call (.Name "range" p) [a, b] [] pos) false (sArgs rng2 r) :=
  ⟨(pi_range2 hg hm ha.pa hs hs2).imp fun σ H R ⟨G0, H0, G, ρ, ds, s, ed, q⟩ => by
    obtain ⟨l, e1, e2⟩ := bind_some ed
    refine ⟨G0, H0, G, ρ, l, s, e1, fun G' H' vs gx r => ?_⟩
    unfold rng2 at e2
    split at e2
    · obtain ⟨h1, rfl⟩ := if_some e2
      obtain ⟨v, w, rfl, r1, r2⟩ := r.two
      cases (show Rep X.K G' (.int _) v from r1)
      cases (show Rep X.K G' (.int _) w from r2)
      exact ⟨_, _, rfl, h1, q G' H' _ gx WalkD.range⟩
    · cases e2⟩
def enumI : List PyData → Option (List PyData)
  | [.list l] => some (enumD 0 l)
  | _ => none
def zipI : List PyData → Option (List PyData)
  | [.list l, .list m] => some (zipD l m)
  | _ => none
/-! ### targets -/
abbrev SG := PyData → Rho → Option Rho
abbrev SGs := List PyData → Rho → Option Rho
def tG (K : PySem.W.Frag) (g : SG) : TG := fun v σ H Q => ∃ G0 H0 G ρ d ρ', Sok K G0 H0 G ρ σ H ∧ Rep K G d v ∧ g d ρ = some ρ' ∧ ∀ σ', Sok K G0 H0 G ρ' σ' H → Q σ' H
def tGs (K : PySem.W.Frag) (g : SGs) : TGs := fun vs σ H Q => ∃ G0 H0 G ρ ds ρ', Sok K G0 H0 G ρ σ H ∧ RepA K G ds vs ∧ g ds ρ = some ρ' ∧ ∀ σ', Sok K G0 H0 G ρ' σ' H → Q σ' H
structure DG (X : Cx) (tg : Expr) (g : SG) : Prop where
  pg : PG X tg (tG X.K g)
structure DGs (X : Cx) (tg : List Expr) (g : SGs) : Prop where
  pgs : PGs X tg (tGs X.K g)
theorem _root_.L2.PG.imp {e : Expr} {t t' : TG} (h : PG X e t) (w : ∀ v σ H Q, t' v σ H Q → t v σ H Q) : PG X e t' := ⟨fun pins s σ H v u Q I r q => h.run pins s σ H v u Q I r (w v σ H Q q)⟩
theorem _root_.L2.PGs.imp {e : List Expr} {t t' : TGs} (h : PGs X e t) (w : ∀ v σ H Q, t' v σ H Q → t v σ H Q) : PGs X e t' := ⟨fun pins s σ H v u Q I r q => h.run pins s σ H v u Q I r (w v σ H Q q)⟩
def gV (i : Nat) : SG := fun d ρ => if i < ρ.length then some (ρ.set i (.val d)) else none
def gsNil : SGs := fun ds ρ => match ds with
  | [] => some ρ
  | _ => none
def gsCons (g : SG) (r : SGs) : SGs := fun ds ρ => match ds with
  | d :: ds => (g d ρ).bind fun ρ' => r ds ρ'
  | [] => none
def gT (n : Nat) (r : SGs) : SG := fun d ρ => match d with
  | .tuple ds => if ds.length = n then r ds ρ else none
  | _ => none
variable {x : Str}
theorem g_name (i : Nat) (hN : X.N.Nodup) (hi : X.N[i]? = some x := by rfl) (hx : Loc X.env.scope x := by first | exact Or.inl rfl | exact Or.inr rfl) (hf : X.fn x = true ∨ X.env.scope.names.lookup x = some .local := by first | exact .inl rfl | exact .inr rfl | assumption) : DG X (.Name x pos) (gV i) :=
  ⟨(pg_name hN hi hx hf).imp fun v σ H Q ⟨G0, H0, G, ρ, d, ρ', s, r, e, q⟩ => by
    obtain ⟨hl, rfl⟩ := if_some e
    exact q _ (s.setVal hl r)⟩
theorem gs_nil : DGs X [] gsNil := ⟨pgs_nil.imp fun vs σ H Q ⟨G0, H0, G, ρ, d, ρ', s, r, e, q⟩ => by
  unfold gsNil at e
  split at e
  · cases e; cases r; exact ⟨rfl, q _ s⟩
  · cases e⟩
theorem gs_cons {es : List Expr} {g : SG} {r : SGs} (h1 : DG X e g) (h2 : DGs X es r) (hs : (assignEach (e :: es) X.env).map (·.2) = assign e X.env :: (assignEach es X.env).map (·.2) := by rfl) : DGs X (e :: es) (gsCons g r) :=
  ⟨(pgs_cons h1.pg h2.pgs hs).imp fun vs σ H Q ⟨G0, H0, G, ρ, d, ρ', s, r, e, q⟩ => by
    unfold gsCons at e
    split at e
    · cases r with
      | cons r1 r2 =>
        obtain ⟨ρ1, e1, e2⟩ := bind_some e
        exact ⟨_, _, rfl, G0, H0, G, ρ, _, ρ1, s, r1, e1, fun σ1 s1 => ⟨G0, H0, G, ρ1, _, ρ', s1, r2, e2, q⟩⟩
    · cases e⟩
theorem g_tup {es : List Expr} {k : Nat} {g : SGs} {n : Nat} (hc : X.calm = true) (h : DGs X es g)
    (hn : (assignEach es X.env).length = n := by rfl) (hst : (assignEach es X.env).findIdx? (·.1) = none := by rfl) : DG X (.Tuple es k pos) (gT n g) :=
  ⟨(pg_tup hc h.pgs hn hst).imp fun v σ H Q ⟨G0, H0, G, ρ, d, ρ', s, r, e, q⟩ => by
    unfold gT at e
    split at e
    · obtain ⟨hl, e⟩ := ite_some e
      cases r with
      | tup hq ra => exact ⟨_, _, rfl, s.gx.gh.sqt (sqtOf hq), by rw [← ra.len]; exact hl, G0, H0, G, ρ, _, ρ', s, ra, e, q⟩
    · cases e⟩
end
end DV

namespace DV
open PySem L2

/-! ### comprehensions -/
def wipeR (ρ : Rho) : List Nat → Rho
  | [] => ρ
  | v :: vs => (wipeR ρ vs).set v .un
section
variable {K : PySem.W.Frag} {G0 : Fr} {B H0 G H G' H' : Hp} {ρ : Rho} {σ : L2.St} {d : PyData} {ds : List PyData}
theorem Sok.setOut (s : Sok K G0 H0 G ρ σ H) {i : Nat} (hi : ¬ i < ρ.length) : Sok K G0 H0 G (ρ.set i .un) (σ.set i none) H := by
  rw [List.set_eq_of_length_le (by omega), List.set_eq_of_length_le (by rw [s.len]; omega)]; exact s
theorem Sok.wipe (s : Sok K G0 H0 G ρ σ H) : ∀ vs : List Nat, Sok K G0 H0 G (wipeR ρ vs) (L2.wipe σ vs) H
  | [] => s
  | v :: vs => by
    show Sok K G0 H0 G ((wipeR ρ vs).set v .un) ((L2.wipe σ vs).set v none) H
    by_cases h : v < (wipeR ρ vs).length
    · exact (s.wipe vs).setUn h none
    · exact (s.wipe vs).setOut h
end
def lcGo (g : SG) (t : SB) (e : SE) (ρ : Rho) : List PyData → Option (List PyData)
  | [] => some []
  | d :: ds => (g d ρ).bind fun ρ1 => (t ρ1).bind fun k => if k = true then (e ρ1).bind fun y => (lcGo g t e ρ ds).bind fun ys => some (y :: ys) else lcGo g t e ρ ds
def eLc (f : SI) (g : SG) (t : SB) (e : SE) (vs : List Nat) : SE := fun ρ => (f ρ).bind fun ds => (lcGo g t e (wipeR ρ vs) ds).bind fun ys => if ys.length ≤ sizeLine then some (.list ys) else none
def bYes : SB := fun _ => some true
structure DTs (X : Cx) (ifs : List Expr) (f : SB) : Prop where
  pts : PTs X ifs (tT X.K f)
theorem _root_.L2.PTs.imp {X : Cx} {e : List Expr} {t t' : TT} (h : PTs X e t) (w : ∀ σ H Q, t' σ H Q → t σ H Q) : PTs X e t' := ⟨fun pins s σ H Q I q => h.run pins s σ H Q I (w σ H Q q)⟩
section
variable {X : Cx} {tg e iter c : Expr} {f : SE} {fi : SI} {g : SG} {t : SB} {pos : Pos}
theorem ts_nil : DTs X [] bYes := ⟨pts_nil.imp fun σ H Q ⟨G0, H0, G, ρ, k, s, e, q⟩ => by
  cases e
  exact q G H (Gx.refl s.gx.gh)⟩
/-- the target of a comprehension stores into the block's own slots alone -/
def GOwn (g : SG) (vs : List Nat) : Prop := ∀ d (ρ ρ' : Rho), g d ρ = some ρ' → ρ'.length = ρ.length
theorem wipe_eq (vs : List Nat) (σ σ' : L2.St) (hl : σ'.length = σ.length) (h : ∀ i, i ∉ vs → σ'[i]? = σ[i]?) : L2.wipe σ' vs = L2.wipe σ vs := by
  apply List.ext_getElem?
  intro i
  have get : ∀ (τ : L2.St) (vs : List Nat), (L2.wipe τ vs)[i]? = if i ∈ vs ∧ i < τ.length then some none else τ[i]? := by
    intro τ vs
    induction vs with
    | nil => simp [L2.wipe]
    | cons v r ih =>
      show ((L2.wipe τ r).set v none)[i]? = _
      by_cases hv : v = i
      · subst hv
        by_cases hlt : v < τ.length
        · rw [List.getElem?_set_self (by rw [wipe_length]; exact hlt), if_pos ⟨List.mem_cons_self, hlt⟩]
        · rw [List.set_eq_of_length_le (by rw [wipe_length]; omega), ih, if_neg (fun z => hlt z.2), if_neg (fun z => hlt z.2)]
      · rw [List.getElem?_set_ne hv, ih]
        by_cases hr : i ∈ r ∧ i < τ.length
        · rw [if_pos hr, if_pos ⟨List.mem_cons_of_mem _ hr.1, hr.2⟩]
        · rw [if_neg hr, if_neg (fun z => hr ⟨(List.mem_cons.mp z.1).resolve_left (fun q => hv q.symm), z.2⟩)]
  rw [get, get, hl]
  by_cases hi : i ∈ vs
  · by_cases hlt : i < σ.length
    · rw [if_pos ⟨hi, hlt⟩, if_pos ⟨hi, hlt⟩]
    · rw [if_neg (fun z => hlt z.2), if_neg (fun z => hlt z.2), List.getElem?_eq_none (by omega), List.getElem?_eq_none (by omega)]
  · rw [if_neg (fun z => hi z.1), if_neg (fun z => hi z.1)]; exact h i hi
end
/-! targets that touch the slots vs alone: their readings with that fact -/
def tGw (K : PySem.W.Frag) (vs : List Nat) (g : SG) : TG := fun v σ H Q => ∃ G0 H0 G ρ d ρ', Sok K G0 H0 G ρ σ H ∧ Rep K G d v ∧ g d ρ = some ρ' ∧ ∀ σ', σ'.length = σ.length → (∀ i, i ∉ vs → σ'[i]? = σ[i]?) → Sok K G0 H0 G ρ' σ' H → Q σ' H
def tGws (K : PySem.W.Frag) (vs : List Nat) (g : SGs) : TGs := fun us σ H Q => ∃ G0 H0 G ρ ds ρ', Sok K G0 H0 G ρ σ H ∧ RepA K G ds us ∧ g ds ρ = some ρ' ∧ ∀ σ', σ'.length = σ.length → (∀ i, i ∉ vs → σ'[i]? = σ[i]?) → Sok K G0 H0 G ρ' σ' H → Q σ' H
structure DGw (X : Cx) (vs : List Nat) (tg : Expr) (g : SG) : Prop where
  pg : PG X tg (tGw X.K vs g)
structure DGws (X : Cx) (vs : List Nat) (tg : List Expr) (g : SGs) : Prop where
  pgs : PGs X tg (tGws X.K vs g)
section
variable {X : Cx} {tg e : Expr} {vs : List Nat} {pos : Pos} {x : Str}
theorem gw_name (i : Nat) (hN : X.N.Nodup) (hv : i ∈ vs := by decide) (hi : X.N[i]? = some x := by rfl) (hx : Loc X.env.scope x := by first | exact Or.inl rfl | exact Or.inr rfl) (hf : X.fn x = true ∨ X.env.scope.names.lookup x = some .local := by first | exact .inl rfl | exact .inr rfl | assumption) : DGw X vs (.Name x pos) (gV i) :=
  ⟨(pg_name hN hi hx hf).imp fun v σ H Q ⟨G0, H0, G, ρ, d, ρ', s, r, e, q⟩ => by
    obtain ⟨hl, rfl⟩ := if_some e
    exact q _ (List.length_set ..) (fun j hj => List.getElem?_set_ne (show i ≠ j from fun z => hj (z ▸ hv))) (s.setVal hl r)⟩
end
section
variable {X : Cx} {tg elt iter : Expr} {f : SE} {fi : SI} {g : SG} {t : SB} {pos : Pos} {ifs : List Expr} {scope : Scope} {own : List (Str × Nat)}
/-- the heart of a comprehension over WalkD -/
theorem lc_loop {K : PySem.W.Frag} {G0 : Fr} {H0 G H : Hp} {ρ : Rho} {σ : L2.St} {vs : List Nat} {J : It} {ds ys : List PyData} {D : Addr} {Q : V → Hp → Prop}
    (s : Sok K G0 H0 G ρ σ H) (w : WalkD K H G J ds) (hys : lcGo g t f (wipeR ρ vs) ds = some ys) (hl : ys.length ≤ sizeLine) (hD : H D = none)
    (q : ∀ G' H' v, Gx G H G' H' → RM K H0 H .new G' H' (.list ys) v → Q v H') :
    ∃ W : Nat → Nat → Hp → Prop, (∃ m, W 0 m (upd H D (.lst []))) ∧ ∀ i m H, W i m H →
      (J.stop i H ∧ Q (.ref D) H) ∨ (J.go i H ∧ ∃ Nx : Hp → Prop, (∀ H', Nx H' → ∃ m', m' < m ∧ W (i + 1) m' H') ∧ ∀ x H', J.yld i H x H' → tGw K vs g x (L2.wipe σ vs) H' fun σ2 H2 => L2.wipe σ2 vs = L2.wipe σ vs ∧ tT K t σ2 H2 fun b H3 =>
        if b = true then tE K .val f σ2 H3 fun y H4 => ∃ acc, H4 D = some (.lst acc) ∧ acc.length < sizeLine ∧ Nx (upd H4 D (.lst (acc ++ [y]))) else Nx H3) := by
  -- the state ahead of turn i: what is made so far, what is left
  let St (i : Nat) (Hi : Hp) : Prop := ∃ Gi done rest us, Gx G H Gi Hi ∧ Gi D = none ∧ Hi D = some (.lst us) ∧ RepA K Gi done us ∧ ys = done ++ rest ∧ i ≤ ds.length ∧ lcGo g t f (wipeR ρ vs) (ds.drop i) = some rest
  refine ⟨fun i m Hi => m = ds.length - i ∧ St i Hi, ⟨_, rfl, G, [], ys, [], Gx.mine s.gx.gh hD, s.gx.gh.back hD, upd_same, .nil, rfl, Nat.zero_le _, hys⟩, ?_⟩
  rintro i m Hi ⟨rfl, Gi, done, rest, us, gx, gD, eD, ra, ey, hi, hr⟩
  have si := s.gx' gx
  by_cases hlt : i < ds.length
  · refine .inr ⟨w.goes i Gi Hi hlt gx.g gx.gh gx.h, St (i + 1), fun H' p => ⟨_, by omega, rfl, p⟩, fun x H' hy => ?_⟩
    have hd := List.getElem?_eq_getElem hlt
    obtain ⟨G3, gx3, rx⟩ := w.yields i _ Gi Hi x H' hd gx.g gx.gh gx.h hy
    rw [List.drop_eq_getElem_cons hlt] at hr
    obtain ⟨ρ1, e1, hr⟩ := bind_some hr
    obtain ⟨k, e2, hr⟩ := bind_some hr
    have s3 := (si.wipe vs).gx' gx3
    refine ⟨G0, H0, G3, _, _, ρ1, s3, rx, e1, fun σ2 l2 k2 s2 => ⟨?_, ?_⟩⟩
    · rw [wipe_eq vs (L2.wipe σ vs) σ2 l2 k2]
      exact wipe_eq vs σ (L2.wipe σ vs) (wipe_length _ _) fun j hj => wipe_out hj
    · refine ⟨G0, H0, G3, ρ1, k, s2, e2, fun G4 H4 gx4 => ?_⟩
      have gxa := (gx.trans gx3).trans gx4
      have gx34 := gx3.trans gx4
      have noD : ∀ {G' H' : Hp}, Gx Gi Hi G' H' → G' D = none ∧ H' D = some (.lst us) := fun {G' H'} gxq => by
        refine ⟨?_, gxq.h _ _ eD⟩
        cases z : G' D with
        | none => rfl
        | some u =>
          rcases gxq.nw D (by rw [z]; simp) with y | y
          · exact absurd gD y
          · rw [eD] at y; exact (show False from y).elim
      cases k with
      | false =>
        refine iteF ⟨G4, done, rest, us, gxa, (noD gx34).1, (noD gx34).2, ra.mono gx34.g, ey, hlt, hr⟩
      | true =>
        refine iteT ?_
        obtain ⟨y, e3, hr⟩ := bind_some (show _ = _ from hr)
        obtain ⟨r2, e4, hr⟩ := bind_some hr
        cases hr
        refine ⟨G0, H0, G4, ρ1, y, s2.gx' gx4, e3, fun G5 H5 v gx5 r5 => ?_⟩
        have gx35 := gx34.trans gx5
        obtain ⟨n1, n2⟩ := noD gx35
        refine ⟨us, n2, ?_, G5, done ++ [y], r2, us ++ [v], ?_, n1, upd_same, (ra.mono gx35.g).app (.cons r5 .nil), by rw [ey]; simp, hlt, e4⟩
        · rw [← ra.len]
          have : ys.length = done.length + (r2.length + 1) := by rw [ey]; simp
          omega
        · have z := gx.trans gx35
          refine ⟨z.g, z.h.mut hD, z.gh.mut n1, z.nw⟩
  · have ei : i = ds.length := by omega
    subst ei
    rw [List.drop_length] at hr
    cases hr
    refine .inl ⟨w.stops Gi Hi gx.g gx.gh gx.h, q Gi Hi _ gx ⟨D, rfl, hD, gD, .lst eD ?_⟩⟩
    rw [ey, List.append_nil]; exact ra
theorem d_lc {wide : Bool} {vs : List Nat} (hc : X.calm = true) (hN : X.N.Nodup) (hvs : own.map (·.2) = vs) (hi : DI X tg iter wide fi) (ok : BlkOk X.N X.env.scope scope own)
    (hg : ∀ (s : Shared) (H : Hp) (C : Addr) (cl : List (Str × Addr)) (fp : List Addr), DGw (X.blk s H scope (compEnvC scope cl C X.env) fp) vs tg g)
    (ht : ∀ (s : Shared) (H : Hp) (C : Addr) (cl : List (Str × Addr)) (fp : List Addr), DTs (X.blk s H scope (compEnvC scope cl C X.env) fp) ifs t)
    (he : ∀ (s : Shared) (H : Hp) (C : Addr) (cl : List (Str × Addr)) (fp : List Addr), DX (X.blk s H scope (compEnvC scope cl C X.env) fp) .val elt f)
    (hs : ∀ x, foldedSetIterable iter X.env x = pure x := by intro _; rfl) : DX X .new (.ListComp elt [⟨tg, iter, ifs, 0⟩] scope pos) (eLc fi g t f vs) := by
  subst hvs
  exact ⟨(pe_lc hc hN hi.pi ok (fun s H C cl fp => (hg s H C cl fp).pg) (fun s H C cl fp => (ht s H C cl fp).pts) (fun s H C cl fp => (he s H C cl fp).pe) hs).imp fun σ H Q ⟨G0, H0, G, ρ, d, s, ed, q⟩ => by
    obtain ⟨ds, e1, ed⟩ := bind_some ed
    obtain ⟨ys, e2, ed⟩ := bind_some ed
    obtain ⟨hl, rfl⟩ := if_some ed
    refine ⟨G0, H0, G, ρ, ds, s, e1, fun G1 H1 J gx1 w => fun D hD => ?_⟩
    have w' : WalkD X.K H1 G1 J ds := by
      cases wide with
      | true => exact w
      | false =>
        have z := s.gx.h.trans gx1.h
        exact ⟨fun i G2 H2 a b c e => w.goes i G2 H2 a b c (z.trans e), fun G2 H2 b c e => w.stops G2 H2 b c (z.trans e), fun i d G2 H2 x H3 a b c e => w.yields i d G2 H2 x H3 a b c (z.trans e)⟩
    exact lc_loop (s.gx' gx1) w' e2 hl hD fun G' H' v gx r => q G' H' v (gx1.trans gx) (r.start gx1.h)⟩
end
end DV

namespace DV
open PySem L2

/-! ### statements -/
def OutOk (K : PySem.W.Frag) (rm : Md) (G0 : Fr) (H0 G : Hp) (D : Ends) : Out → Prop
  | .nx ρ' => ∀ G' σ' H', Ex G G' → Sok K G0 H0 G' ρ' σ' H' → D.nx σ' H'
  | .bk ρ' => ∀ G' σ' H', Ex G G' → Sok K G0 H0 G' ρ' σ' H' → D.bk σ' H'
  | .ct ρ' => ∀ G' σ' H', Ex G G' → Sok K G0 H0 G' ρ' σ' H' → D.ct σ' H'
  | .rt d => ∀ G' H' v, Gx G0.g H0 G' H' → RM K H0 H0 rm G' H' d v → D.rt v H'
def tS (K : PySem.W.Frag) (rm : Md) (f : SS) : TS := fun D σ H => ∃ G0 H0 G ρ o, Sok K G0 H0 G ρ σ H ∧ f ρ = some o ∧ OutOk K rm G0 H0 G D o
structure DS (X : Cx) (rm : Md) (st : Stmt) (f : SS) : Prop where
  ps : PS X st (tS X.K rm f)
structure DB (X : Cx) (rm : Md) (st : List Stmt) (f : SS) : Prop where
  pss : PSs X st (tS X.K rm f)
theorem OutOk.grow {K : PySem.W.Frag} {rm : Md} {G0 : Fr} {H0 G G1 : Hp} {D : Ends} {o : Out} (e : Ex G G1) (h : OutOk K rm G0 H0 G D o) : OutOk K rm G0 H0 G1 D o := by
  cases o with
  | nx ρ => exact fun G' σ' H' e2 s => h G' σ' H' (e.trans e2) s
  | bk ρ => exact fun G' σ' H' e2 s => h G' σ' H' (e.trans e2) s
  | ct ρ => exact fun G' σ' H' e2 s => h G' σ' H' (e.trans e2) s
  | rt d => exact h
def sNext : SS := fun ρ => some (.nx ρ)
def sSeqn (f g : SS) : SS := fun ρ => (f ρ).bind fun o => match o with
  | .nx ρ' => g ρ'
  | o => some o
section
variable {X : Cx} {rm : Md} {st : Stmt} {rest b1 b2 : List Stmt} {f g : SS} {e c : Expr} {fe : SE} {t : SB} {pos : Pos} {x : Str}
theorem b_nil : DB X rm [] sNext := ⟨pss_nil.imp fun D σ H ⟨G0, H0, G, ρ, o, s, e, q⟩ => by
  cases e
  exact q G σ H (Ex.refl _) s⟩
theorem seq_of {K : PySem.W.Frag} {t u : TS} (h1 : ∀ D σ H, tS K rm f D σ H → t D σ H) (h2 : ∀ D σ H, tS K rm g D σ H → u D σ H) : ∀ D σ H, tS K rm (sSeqn f g) D σ H → tSeq t u D σ H := fun D σ H ⟨G0, H0, G, ρ, o, s, e, q⟩ => by
  obtain ⟨o1, e1, e2⟩ := bind_some e
  refine h1 _ σ H ⟨G0, H0, G, ρ, o1, s, e1, ?_⟩
  cases o1 with
  | nx ρ' => exact fun G' σ' H' eg s' => h2 D σ' H' ⟨G0, H0, G', ρ', o, s', e2, q.grow eg⟩
  | bk ρ' => cases e2; exact q
  | ct ρ' => cases e2; exact q
  | rt d => cases e2; exact q
theorem b_cons (h1 : DS X rm st f) (h2 : DB X rm rest g) : DB X rm (st :: rest) (sSeqn f g) := ⟨(pss_cons h1.ps h2.pss).imp (seq_of (fun _ _ _ h => h) fun _ _ _ h => h)⟩
theorem b_one (h1 : DS X rm st f) : DB X rm [st] f := ⟨pss_one h1.ps⟩
def sBrk : SS := fun ρ => some (.bk ρ)
def sCnt : SS := fun ρ => some (.ct ρ)
theorem s_continue : DS X rm (.Continue pos) sCnt := ⟨ps_continue.imp fun D σ H ⟨G0, H0, G, ρ, o, s, e, q⟩ => by
  cases e
  exact q G σ H (Ex.refl _) s⟩
def sExpr (f : SE) : SS := fun ρ => (f ρ).bind fun _ => some (.nx ρ)
def sRet (f : SE) : SS := fun ρ => (f ρ).bind fun d => some (.rt d)
theorem s_ret (he : DX X rm e fe) (hr : rm = .val ∨ rm = .new := by first | exact Or.inl rfl | exact Or.inr rfl) : DS X rm (.Return (some e) pos) (sRet fe) :=
  ⟨(ps_ret he.pe).imp fun D σ H ⟨G0, H0, G, ρ, o, s, e, q⟩ => by
    obtain ⟨d, e1, e2⟩ := bind_some e
    cases e2
    refine ⟨G0, H0, G, ρ, d, s, e1, fun G' H' v gx r => q G' H' v (s.gx.trans gx) ?_⟩
    exact r.start s.gx.h⟩
/-- return of an own list by its name -/
def sRetOwn (i : Nat) : SS := fun ρ => match ρ[i]? with
  | some (.own d) => some (.rt d)
  | _ => none
theorem s_retOwn (i : Nat) {p : Pos} (hN : X.N[i]? = some x := by rfl) (hv : Vis X.env.scope x := by first | exact Or.inl rfl | exact Or.inr (Or.inl rfl) | exact Or.inr (Or.inr rfl)) (hd : (x == ("__debug__" : Str)) = false := by decide)
    (hcd : (x == ("__classdict__" : Str)) = false := by decide) : DS X .new (.Return (some (.Name x p)) pos) (sRetOwn i) :=
  ⟨(ps_ret (pe_var hN hv hd hcd)).imp fun D σ H ⟨G0, H0, G, ρ, o, s, e, q⟩ => by
    unfold sRetOwn at e
    split at e
    · cases e
      rename_i d h
      obtain ⟨a, h1, h2, h3, h4⟩ := s.own h
      exact ⟨_, h1, q G H _ s.gx ⟨a, rfl, h2, h3, h4⟩⟩
    · cases e⟩
def sRetN : SS := fun _ => some (.rt .none)
def sIf (t : SB) (f g : SS) : SS := fun ρ => (t ρ).bind fun k => if k = true then f ρ else g ρ
theorem s_if (hc : DT X c t) (h1 : DB X rm b1 f) (h2 : DB X rm b2 g) : DS X rm (.If c b1 b2 pos) (sIf t f g) :=
  ⟨(ps_if hc.pt h1.pss h2.pss).imp fun D σ H ⟨G0, H0, G, ρ, o, s, e, q⟩ => by
    obtain ⟨k, e1, e2⟩ := bind_some e
    refine ⟨G0, H0, G, ρ, k, s, e1, fun G' H' gx => ?_⟩
    cases k with
    | true => exact iteT ⟨G0, H0, G', ρ, o, s.gx' gx, e2, q.grow gx.g⟩
    | false => exact iteF ⟨G0, H0, G', ρ, o, s.gx' gx, e2, q.grow gx.g⟩⟩

/-! ### stores -/
def sSet (i : Nat) (f : SE) : SS := fun ρ => (f ρ).bind fun d => if i < ρ.length then some (.nx (ρ.set i (.val d))) else none
def sOwn (i : Nat) (f : SE) : SS := fun ρ => (f ρ).bind fun d => if i < ρ.length then some (.nx (ρ.set i (.own d))) else none
theorem set_of {K : PySem.W.Frag} {i : Nat} : ∀ D σ H, tS K rm (sSet i fe) D σ H → tAsg (tE K .val fe) (gName i) D σ H := fun D σ H ⟨G0, H0, G, ρ, o, s, e, q⟩ => by
  obtain ⟨d, e1, e2⟩ := bind_some e
  obtain ⟨hl, rfl⟩ := if_some e2
  exact ⟨G0, H0, G, ρ, d, s, e1, fun G' H' v gx r => q G' _ H' gx.g ((s.gx' gx).setVal hl r)⟩
theorem own_of {K : PySem.W.Frag} {i : Nat} : ∀ D σ H, tS K rm (sOwn i fe) D σ H → tAsg (tE K .new fe) (gName i) D σ H := fun D σ H ⟨G0, H0, G, ρ, o, s, e, q⟩ => by
  obtain ⟨d, e1, e2⟩ := bind_some e
  obtain ⟨hl, rfl⟩ := if_some e2
  exact ⟨G0, H0, G, ρ, d, s, e1, fun G' H' v gx r => q G' _ H' gx.g (s.setOwn gx hl r)⟩
theorem s_set (i : Nat) {pos' : Pos} (hN : X.N.Nodup) (he : DX X .val e fe) (hi : X.N[i]? = some x := by rfl) (hx : Loc X.env.scope x := by first | exact Or.inl rfl | exact Or.inr rfl) (hs : swapsWith e (some (.Name x pos')) pos.line X.env = pure false := by rfl)
    (hf : X.fn x = true ∨ X.env.scope.names.lookup x = some .local := by first | exact .inl rfl | exact .inr rfl | assumption) : DS X rm (.Assign [.Name x pos'] e pos) (sSet i fe) := ⟨(ps_set hN hi hx he.pe hs hf).imp set_of⟩
theorem s_own (i : Nat) {pos' : Pos} (hN : X.N.Nodup) (he : DX X .new e fe) (hi : X.N[i]? = some x := by rfl) (hx : Loc X.env.scope x := by first | exact Or.inl rfl | exact Or.inr rfl) (hs : swapsWith e (some (.Name x pos')) pos.line X.env = pure false := by rfl)
    (hf : X.fn x = true ∨ X.env.scope.names.lookup x = some .local := by first | exact .inl rfl | exact .inr rfl | assumption) : DS X rm (.Assign [.Name x pos'] e pos) (sOwn i fe) := ⟨(ps_set hN hi hx he.pe hs hf).imp own_of⟩
def sAsg (f : SE) (g : SG) : SS := fun ρ => (f ρ).bind fun d => (g d ρ).bind fun ρ' => some (.nx ρ')
/-- a name op= an int -/
def sAug (i : Nat) (F : PyData → PyData → Option PyData) (f : SE) : SS := fun ρ => (eV i ρ).bind fun x => (f ρ).bind fun y => (F x y).bind fun d => some (.nx (ρ.set i (.val d)))
def addI : PyData → PyData → Option PyData
  | .int i, .int j => some (.int (i + j))
  | _, _ => none
def subI : PyData → PyData → Option PyData
  | .int i, .int j => some (.int (i - j))
  | _, _ => none
theorem aug_of {op : Operator} {F : PyData → PyData → Option PyData} {k : Int → Int → Int} {i : Nat} (hF : ∀ x y d, F x y = some d → ∃ a b, x = .int a ∧ y = .int b ∧ d = .int (k a b)) :
    ∀ D σ H, tS X.K rm (sAug i F fe) D σ H → tAug i (tE X.K .val fe) (ipI k) D σ H := fun D σ H ⟨G0, H0, G, ρ, o, s, e, q⟩ => by
  obtain ⟨d1, e1, e2⟩ := bind_some e
  obtain ⟨d2, e3, e4⟩ := bind_some e2
  obtain ⟨d3, e5, e6⟩ := bind_some e4
  cases e6
  obtain ⟨a, b, rfl, rfl, rfl⟩ := hF _ _ _ e5
  unfold eV at e1
  split at e1
  · cases e1
    rename_i h
    have hi : i < ρ.length := (List.getElem?_eq_some_iff.mp h).1
    have z := s.slot i _ h
    generalize e2 : σ[i]?.getD none = w at z
    cases z with
    | val r =>
      cases r
      refine ⟨_, getD_some e2, G0, H0, G, ρ, _, s, e3, fun G' H' v gx r => ?_⟩
      cases (show Rep X.K G' (.int b) v from r)
      exact ⟨a, b, rfl, rfl, q G' _ H' gx.g ((s.gx' gx).setVal hi (.int _))⟩
  · cases e1
theorem s_augAdd (i : Nat) {pos' : Pos} (hN : X.N.Nodup) (he : DX X .val e fe) (hi : X.N[i]? = some x := by rfl) (hx : Loc X.env.scope x := by first | exact Or.inl rfl | exact Or.inr rfl)
    (hf : X.fn x = true ∨ X.env.scope.names.lookup x = some .local := by first | exact .inl rfl | exact .inr rfl | assumption) : DS X rm (.AugAssign (.Name x pos') .Add e pos) (sAug i addI fe) :=
  ⟨(ps_aug hN hi hx he.pe ip_add hf).imp (aug_of (op := .Add) fun x y d h => by
    unfold addI at h
    split at h
    · cases h; exact ⟨_, _, rfl, rfl, rfl⟩
    · cases h)⟩
/-! ### freezing, a ghost -/
def sFz (i : Nat) (f : SS) : SS := fun ρ => match ρ[i]? with
  | some (.own d) => f (ρ.set i (.val d))
  | some (.val _) => f ρ
  | _ => none
def tFzS (t : TS) : TS := fun D σ H => t D σ H ∨ ∃ d u, H d = some u ∧ Mut (some u) ∧ ∀ od, t D σ (upd H d (.frz od u))
theorem ps_fz {t : TS} (h : PS X st t) : PS X st (tFzS t) := ⟨fun pins s σ H D I q => by
  rcases q with q | ⟨d, w, hd, mu, q⟩
  · exact h.run pins s σ H D I q
  · obtain ⟨od, I2⟩ := I.lock hd mu
    exact h.run pins s σ _ D I2 (q od)⟩
theorem fz_of {K : PySem.W.Frag} {i : Nat} {D : Ends} {σ : L2.St} {H : Hp} (h : tS K rm (sFz i f) D σ H) : tFzS (tS K rm f) D σ H := by
  obtain ⟨G0, H0, G, ρ, o, s, e, q⟩ := h
  unfold sFz at e
  split at e
  · rename_i d h
    obtain ⟨a, u, hu, r⟩ := s.freeze h
    rcases r with ⟨G', eg, s'⟩ | ⟨mu, r⟩
    · exact .inl ⟨G0, H0, G', _, o, s', e, q.grow eg⟩
    · exact .inr ⟨a, u, hu, mu, fun od => (r od).elim fun G' z => ⟨G0, H0, G', _, o, z.2, e, q.grow z.1⟩⟩
  · exact .inl ⟨G0, H0, G, ρ, o, s, e, q⟩
  · cases e
theorem s_fz (i : Nat) (h : DS X rm st f) : DS X rm st (sFz i f) := ⟨(ps_fz h.ps).imp fun D σ H q => fz_of q⟩

/-! ### loops -/
def forGo (g : SG) (b : SS) : List PyData → Rho → Option Out
  | [], ρ => some (.nx ρ)
  | d :: ds, ρ => (g d ρ).bind fun ρ1 => (b ρ1).bind fun o => match o with
    | .nx ρ' => forGo g b ds ρ'
    | .ct ρ' => forGo g b ds ρ'
    | .bk ρ' => some (.nx ρ')
    | .rt d => some (.rt d)
def sFor (fi : SI) (g : SG) (b : SS) : SS := fun ρ => (fi ρ).bind fun ds => forGo g b ds ρ
theorem s_for {tg iter : Expr} {body : List Stmt} {fi : SI} {g : SG} (hp : PassesOwn (model X.prog X.w) X.A X.env X.xe) (hc : X.calm = true) (hi : DI X tg iter false fi) (hg : DG X tg g) (hb : DB X rm body f)
    (hs : ∀ x, foldedSetIterable iter X.env x = pure x := by intro _; rfl) : DS X rm (.For tg iter body [] pos) (sFor fi g f) :=
  ⟨(ps_for hp hc hi.pi hg.pg hb.pss hs).imp fun D σ H ⟨G0, H0, G, ρ, o, s, e, q⟩ => by
    obtain ⟨ds, e1, e2⟩ := bind_some e
    refine ⟨G0, H0, G, ρ, ds, s, e1, fun G1 H1 J gx1 w => ?_⟩
    let St (i : Nat) (σi : L2.St) (Hi : Hp) : Prop := ∃ Gi ρi, Ex G1 Gi ∧ Sok X.K G0 H0 Gi ρi σi Hi ∧ i ≤ ds.length ∧ forGo g f (ds.drop i) ρi = some o
    refine ⟨fun i m σi Hi => m = ds.length - i ∧ St i σi Hi, ⟨_, rfl, G1, ρ, Ex.refl _, s.gx' gx1, Nat.zero_le _, e2⟩, ?_⟩
    rintro i m σi Hi ⟨rfl, Gi, ρi, eg, si, hi, hr⟩
    by_cases hlt : i < ds.length
    · refine .inr ⟨w.goes i Gi Hi hlt eg si.gx.gh si.gx.h, St (i + 1), fun σ' H' p => ⟨_, by omega, rfl, p⟩, fun y H' hy => ?_⟩
      have hd := List.getElem?_eq_getElem hlt
      obtain ⟨G3, gx3, rx⟩ := w.yields i _ Gi Hi y H' hd eg si.gx.gh si.gx.h hy
      rw [List.drop_eq_getElem_cons hlt] at hr
      obtain ⟨ρ1, e1, hr⟩ := bind_some hr
      obtain ⟨o1, e2, hr⟩ := bind_some hr
      refine ⟨G0, H0, G3, ρi, _, ρ1, si.gx' gx3, rx, e1, fun σ2 s2 => ⟨G0, H0, G3, ρ1, o1, s2, e2, ?_⟩⟩
      have eg3 := eg.trans gx3.g
      cases o1 with
      | nx ρ' => exact fun G' σ' H' e4 s4 => ⟨G', ρ', eg3.trans e4, s4, hlt, hr⟩
      | ct ρ' => exact fun G' σ' H' e4 s4 => ⟨G', ρ', eg3.trans e4, s4, hlt, hr⟩
      | bk ρ' =>
        cases hr
        exact fun G' σ' H' e4 s4 => q G' σ' H' (gx1.g.trans (eg3.trans e4)) s4
      | rt d =>
        cases hr
        exact q
    · have ei : i = ds.length := by omega
      subst ei
      rw [List.drop_length] at hr
      cases hr
      exact .inl ⟨w.stops Gi Hi eg si.gx.gh si.gx.h, q Gi σi Hi (gx1.g.trans eg) si⟩⟩
def whileGo (t : SB) (b : SS) : Nat → Rho → Option Out
  | 0, _ => none
  | n + 1, ρ => (t ρ).bind fun k => if k = true then (b ρ).bind fun o => match o with
    | .nx ρ' => whileGo t b n ρ'
    | .ct ρ' => whileGo t b n ρ'
    | .bk ρ' => some (.nx ρ')
    | .rt d => some (.rt d)
    else some (.nx ρ)
def sWhile (n : Nat) (t : SB) (b : SS) : SS := fun ρ => whileGo t b n ρ
end

/-! ### defs -/
def slotsOf : List Md → List PyData → Rho
  | .bor :: ms, d :: ds => .bor d :: slotsOf ms ds
  | .scr :: ms, d :: ds => .scr d :: slotsOf ms ds
  | _ :: ms, d :: ds => .val d :: slotsOf ms ds
  | _, _ => []
def runF (n : Nat) (rm : Md) (ms : List Md) (f : SS) : List PyData → Option PyData := fun ds =>
  if ds.length = ms.length then (f (slotsOf ms ds ++ List.replicate (n - ds.length) .un)).bind fun o => match o, rm with
    | .rt d, _ => some d
    | .nx _, .val => some .none
    | _, _ => none
  else none
/-- a def's promise -/
def spD (K : PySem.W.Frag) (rm : Md) (ms : List Md) (F : List PyData → Option PyData) : Sp := fun vs H Q _ =>
  vs.length = ms.length ∧ ∃ G ds d, Ex G H ∧ RMs K H H G H ms ds vs ∧ F ds = some d ∧ ∀ G' H' v, Gx G H G' H' → RM K H H rm G' H' d v → Q v H'
def ArgMd (ms : List Md) : Prop := ∀ m ∈ ms, m = .val ∨ m = .bor ∨ m = .scr
theorem slots_ok {K : PySem.W.Frag} {H G : Hp} : ∀ {ms : List Md} {ds : List PyData} {vs : List V}, ArgMd ms → RMs K H H G H ms ds vs → (slotsOf ms ds).length = vs.length ∧
    ∀ (i : Nat) (s : Slot), (slotsOf ms ds)[i]? = some s → SlotOk K (fun _ _ => False) H H G H s ((vs.map some)[i]?.getD none) ∧ (∀ d, s ≠ .own d) ∧ ∀ d, s ≠ .pin d
  | _, _, _, _, .nil => ⟨rfl, fun i s h => by simp [slotsOf] at h⟩
  | m :: ms, d :: ds, v :: vs, am, .cons h t => by
    obtain ⟨l, q⟩ := slots_ok (fun m hm => am m (List.mem_cons_of_mem _ hm)) t
    have hm := am m List.mem_cons_self
    rcases hm with rfl | rfl | rfl
    · refine ⟨congrArg (· + 1) l, fun i s hs => ?_⟩
      cases i with
      | zero =>
        cases hs
        exact ⟨.val h, ⟨fun d e => (by cases e), fun d e => (by cases e)⟩⟩
      | succ i => exact q i s hs
    · refine ⟨congrArg (· + 1) l, fun i s hs => ?_⟩
      cases i with
      | zero =>
        cases hs
        exact ⟨.bor h, ⟨fun d e => (by cases e), fun d e => (by cases e)⟩⟩
      | succ i => exact q i s hs
    · refine ⟨congrArg (· + 1) l, fun i s hs => ?_⟩
      cases i with
      | zero =>
        cases hs
        exact ⟨.scr h, ⟨fun d e => (by cases e), fun d e => (by cases e)⟩⟩
      | succ i => exact q i s hs
theorem RMs.len {K : PySem.W.Frag} {H0 Hs G H : Hp} : ∀ {ms : List Md} {ds : List PyData} {vs : List V}, RMs K H0 Hs G H ms ds vs → ds.length = ms.length ∧ vs.length = ms.length
  | _, _, _, .nil => ⟨rfl, rfl⟩
  | _, _, _, .cons _ t => ⟨congrArg (· + 1) t.len.1, congrArg (· + 1) t.len.2⟩
theorem fn_ok {P : Program} {w : World} {K : PySem.W.Frag} {mg : Str → Option Value} {base : Heap} {x qual : Str} {st : Stmt} {f : Addr} {fd : FuncData} {N ps : List Str} {k n : Nat} {ms : List Md} {rm : Md} {b : SS} (F : Fun K x qual st f fd) (S : FnScope N ps (defScope st))
    (hm : ms.length = ps.length) (hn : N.length = n) (am : ArgMd ms)
    (body : ∀ (cdv : Value) (A : Around) (outer : List Env) (s : Shared) (H : Hp) (E : XK), Room k (A.deeper (PyProof.Rows.envOfC qual (defScope st) s.heap.objs.size f cdv)) → DB (cxOf CX0 P w K mg base N qual (defScope st) f cdv A outer s H E).nox rm (defBody st) b) :
    FnOk P w K mg base CX0 (k + 1) f fd ps (spD K rm ms (runF n rm ms b)) := by
  subst hn
  refine F.ok S (fun vs H Q E h => h.1.trans hm) fun cdv A outer s H vs Q E hr h => ?_
  obtain ⟨hl, G, ds, d, eg, ra, hF, q⟩ := h
  refine ⟨_, (body cdv A outer s H E hr).pss, ?_⟩
  obtain ⟨l1, so⟩ := slots_ok am ra
  have hpl : ps.length ≤ N.length := by have := congrArg List.length S.pre; rw [List.length_take] at this; omega
  obtain ⟨hl2, hF⟩ := ite_some hF
  obtain ⟨o, e1, e2⟩ := bind_some hF
  have dv : ds.length = vs.length := hl2.trans hl.symm
  refine ⟨⟨G, H, fun _ => none, fun _ _ => False⟩, H, G, _, o, ⟨Gx.refl eg, ?_, fun i t ht => ?_, fun i j d1 d2 a hij h1 => ?_, fun i d h1 => ?_, Ex.refl _, fun i a vs h => (by cases h)⟩, e1, ?_⟩
  · unfold L2.start
    rw [List.length_append, List.length_append, List.length_map, List.length_replicate, List.length_replicate, l1, dv]
  · unfold L2.start
    by_cases hi : i < vs.length
    · rw [List.getElem?_append_left (by rw [l1]; exact hi)] at ht
      rw [List.getElem?_append_left (by simpa using hi)]
      exact (so i t ht).1
    · rw [List.getElem?_append_right (by rw [l1]; omega), List.getElem?_replicate] at ht
      split at ht
      · cases ht; exact .un
      · cases ht
  · exfalso
    by_cases hi : i < vs.length
    · rw [List.getElem?_append_left (by rw [l1]; exact hi)] at h1
      exact (so i _ h1).2.1 _ rfl
    · rw [List.getElem?_append_right (by rw [l1]; omega), List.getElem?_replicate] at h1
      split at h1 <;> cases h1
  · exfalso
    by_cases hi : i < vs.length
    · rw [List.getElem?_append_left (by rw [l1]; exact hi)] at h1
      exact (so i _ h1).2.2 _ rfl
    · rw [List.getElem?_append_right (by rw [l1]; omega), List.getElem?_replicate] at h1
      split at h1 <;> cases h1
  · cases o with
    | rt d' =>
      have e3 : d' = d := by cases rm <;> exact Option.some.inj e2
      subst e3
      exact fun G' H' v gx r => q G' H' v gx r
    | nx ρ' =>
      cases rm with
      | val =>
        have e3 : PyData.none = d := Option.some.inj e2
        subst e3
        exact fun G' σ' H' _ s' => q G' H' .non s'.gx .non
      | _ => cases e2
    | bk _ => cases rm <;> cases e2
    | ct _ => cases rm <;> cases e2
/-! ### calls -/
def eCall (F : List PyData → Option PyData) (r : SA) : SE := fun ρ => (r ρ).bind F
theorem RMs.call {K : PySem.W.Frag} {H0 Hs G H : Hp} : ∀ {ms : List Md} {ds : List PyData} {vs : List V}, ArgMd ms → RMs K H0 Hs G H ms ds vs → RMs K H H G H ms ds vs
  | _, _, _, _, .nil => .nil
  | m :: _, _, _, am, .cons h t => by
    refine .cons ?_ (RMs.call (fun m hm => am m (List.mem_cons_of_mem _ hm)) t)
    rcases am m List.mem_cons_self with rfl | rfl | rfl
    · exact h
    · exact h
    · exact h
section
variable {X : Cx} {rm : Md} {ms : List Md} {e : Expr} {es : List Expr} {r : SA} {pos p : Pos} {x : Str} {k : Nat} {f : Addr} {fd : FuncData} {ps : List Str} {Fn : List PyData → Option PyData}
theorem call_of {K : PySem.W.Frag} (hr : rm = .val ∨ rm = .new) (am : ArgMd ms) : ∀ σ H Q, tE K rm (eCall Fn r) σ H Q → tCall (spD K rm ms Fn) [] E0 (tA K ms r) σ H Q := fun σ H Q ⟨G0, H0, G, ρ, d, s, ed, q⟩ => by
  obtain ⟨ds, e1, e2⟩ := bind_some ed
  refine ⟨G0, H0, G, ρ, ds, s, e1, fun G' H' vs gx ra => ?_⟩
  show spD K rm ms Fn (vs ++ []) H' Q E0
  rw [List.append_nil]
  refine ⟨ra.len.2, G', ds, d, gx.gh, ra.call am, e2, fun G2 H2 v gx2 r2 => q G2 H2 v (gx.trans gx2) ?_⟩
  rcases hr with rfl | rfl
  · exact r2
  · exact RM.start gx.h r2
theorem d_call (F : FnOk X.prog X.w X.K X.mg X.base CX0 k f fd ps (spD X.K rm ms Fn)) (hr : Room k X.A) (hg : Gl X x) (hm : X.mg x = some (.ref f)) (hk : PySem.W.keepIn X.K (.ref f) = true) (hb : Binds X.K fd ps [])
    (ha : DA X ms (e :: es) r) (hrm : rm = .val ∨ rm = .new := by first | exact Or.inl rfl | exact Or.inr rfl) (am : ArgMd ms) (hdb : (x == ("__debug__" : Str)) = false := by decide) (he : starEach (e :: es) X.env = (false, eval e X.env) :: starEach es X.env := by rfl) (hpl : (backTo pos (starEach es X.env)).any (·.1) = false := by rfl) :
    DX X rm (.Call (.Name x p) (e :: es) [] pos) (eCall Fn r) :=
  ⟨(pe_call F hr hg hm hk hb .nil pass0 ha.pa hdb he hpl).imp (call_of hrm am)⟩
end
/-! ### a def that stands in the module, in one place -/
def Fn1 (P : Program) (w : World) (K : PySem.W.Frag) (mg : Str → Option Value) (base : Heap) (x : Str) (ps : List Str) (k : Nat) (rm : Md) (ms : List Md) (F : List PyData → Option PyData) : Prop :=
  ∃ (f : Addr) (fd : FuncData), FnOk P w K mg base CX0 k f fd ps (spD K rm ms F) ∧ mg x = some (.ref f) ∧ PySem.W.keepIn K (.ref f) = true ∧ Binds K fd ps []
section
variable {X : Cx} {rm : Md} {ms : List Md} {e : Expr} {es : List Expr} {r : SA} {pos p : Pos} {x : Str} {k : Nat} {ps : List Str} {Fn : List PyData → Option PyData}
theorem d_fn (F : Fn1 X.prog X.w X.K X.mg X.base x ps k rm ms Fn) (hr : Room k X.A) (ha : DA X ms (e :: es) r) (am : ArgMd ms) (hrm : rm = .val ∨ rm = .new := by first | exact Or.inl rfl | exact Or.inr rfl) (hg : Gl X x := by rfl) (hdb : (x == ("__debug__" : Str)) = false := by decide) (he : starEach (e :: es) X.env = (false, eval e X.env) :: starEach es X.env := by rfl) (hpl : (backTo pos (starEach es X.env)).any (·.1) = false := by rfl) :
    DX X rm (.Call (.Name x p) (e :: es) [] pos) (eCall Fn r) := by
  obtain ⟨f, fd, F, hm, hk, hb⟩ := F
  exact d_call F hr hg hm hk hb ha hrm am hdb he hpl
end
theorem am_nil : ArgMd [] := fun m hm => absurd hm List.not_mem_nil
theorem am_val {ms : List Md} (h : ArgMd ms) : ArgMd (.val :: ms) := fun m hm => (List.mem_cons.mp hm).elim (fun e => .inl e) (h m)
theorem am_bor {ms : List Md} (h : ArgMd ms) : ArgMd (.bor :: ms) := fun m hm => (List.mem_cons.mp hm).elim (fun e => .inr (.inl e)) (h m)
theorem am_scr {ms : List Md} (h : ArgMd ms) : ArgMd (.scr :: ms) := fun m hm => (List.mem_cons.mp hm).elim (fun e => .inr (.inr e)) (h m)
theorem v_nil : ∀ m ∈ ([] : List Md), m = .val := fun m hm => absurd hm List.not_mem_nil
theorem v_cons {ms : List Md} (h : ∀ m ∈ ms, m = .val) : ∀ m ∈ Md.val :: ms, m = .val := fun m hm => (List.mem_cons.mp hm).elim id (h m)
theorem b_nil' : ∀ m ∈ ([] : List Md), m = .bor := fun m hm => absurd hm List.not_mem_nil
theorem b_cons' {ms : List Md} (h : ∀ m ∈ ms, m = .bor) : ∀ m ∈ Md.bor :: ms, m = .bor := fun m hm => (List.mem_cons.mp hm).elim id (h m)
theorem bor1 : ∀ m ∈ [Md.bor], m = .bor := b_cons' b_nil'
theorem bor2 : ∀ m ∈ [Md.bor, Md.bor], m = .bor := b_cons' bor1
end DV

namespace DV
open PySem L2

/-! ### data read from values -/
section
variable {K : PySem.W.Frag} {G H : Hp}
mutual
theorem Rep.dp (e : Ex G H) : ∀ {d : PyData} {v : V}, d.canLay0 = true → Rep K G d v → Dp K H v d
  | _, _, _, .non => .non
  | _, _, _, .bl b => .bl b
  | _, _, _, .int i => .int i
  | _, _, _, .str x => .str x
  | _, _, c, .lst h r => .lst (.inl (e.rd h)) (RepA.dp e (by simpa [PyData.canLay0] using c) r)
  | _, _, c, .tup h r => .tup (e.sqt (sqtOf h)) (RepA.dp e (by simpa [PyData.canLay0] using c) r)
  | _, _, c, .dK h k r => by simp [PyData.canLay0] at c
  | _, _, c, .dT h k r => by simp [PyData.canLay0] at c
theorem RepA.dp (e : Ex G H) : ∀ {ds : List PyData} {vs : List V}, PyData.canLayAll0 ds = true → RepA K G ds vs → DpAll K H vs ds
  | _, _, _, .nil => .nil
  | d :: ds, _, c, .cons h r => by
    have c' : d.canLay0 = true ∧ PyData.canLayAll0 ds = true := by simpa [PyData.canLayAll0] using c
    exact .cons (Rep.dp e c'.1 h) (RepA.dp e c'.2 r)
end
theorem RepB.dp (e : Ex G H) {d : PyData} {v : V} (c : d.canLay0 = true) (h : RepB K G H d v) : Dp K H v d := by
  cases h with
  | val h => exact h.dp e c
  | lst h r => exact .lst (SqL.of h) (r.dp e (by simpa [PyData.canLay0] using c))
  | dK h k r => simp [PyData.canLay0] at c
  | dT h k r => simp [PyData.canLay0] at c
end

/-! ### numbers -/
section
variable {K : PySem.W.Frag} {X : Cx}
def int2 (g : Int → Int → Option PyData) : PyData → PyData → Option PyData
  | .int i, .int j => g i j
  | _, _ => none
theorem int2_some {g : Int → Int → Option PyData} {d1 d2 d : PyData} (h : int2 g d1 d2 = some d) : ∃ i j, d1 = .int i ∧ d2 = .int j ∧ g i j = some d := by
  unfold int2 at h
  split at h
  · exact ⟨_, _, rfl, rfl, h⟩
  · cases h
/-- two ints under a condition give an int -/
def intIf (C : Int → Int → Prop) [∀ i j, Decidable (C i j)] (g : Int → Int → Int) : PyData → PyData → Option PyData := int2 fun i j => if C i j then some (.int (g i j)) else none
theorem opf_intIf (C : Int → Int → Prop) [∀ i j, Decidable (C i j)] (g : Int → Int → Int) : OpF K .val (rI C fun i j => .int (g i j)) (intIf C g) := fun G H d1 d2 d x y Q e r1 r2 h q => by
  obtain ⟨i, j, rfl, rfl, h⟩ := int2_some h
  obtain ⟨c, rfl⟩ := if_some h
  cases r1.int
  cases r2.int
  exact ⟨i, j, rfl, rfl, c, q G H _ (Gx.refl e) fun _ => .int _⟩
def oSub : PyData → PyData → Option PyData := int2 fun i j => some (.int (i - j))
theorem opf_sub : OpF K .val (rI0 fun i j => .int (i - j)) oSub := fun G H d1 d2 d x y Q e r1 r2 h q => by
  obtain ⟨i, j, rfl, rfl, h⟩ := int2_some h
  cases h
  cases r1.int
  cases r2.int
  exact ⟨i, j, rfl, rfl, q G H _ (Gx.refl e) fun _ => .int _⟩
instance (i j : Int) : Decidable (CDivW i j) := by unfold CDivW; exact inferInstance
instance (i j : Int) : Decidable (CPow i j) := by unfold CPow; exact inferInstance
instance (i j : Int) : Decidable (CMul i j) := by unfold CMul; exact inferInstance
instance (j : Int) : Decidable (0 < j ∧ j < 18446744073709551616) := inferInstance
def oFdiv := intIf (fun _ j => 0 < j ∧ j < 18446744073709551616) fun i j => i / j
theorem opf_fdiv : OpF K .val (rI CDivW fun i j => .int (i / j)) oFdiv := fun G H d1 d2 d x y Q e r1 r2 h q => by
  obtain ⟨i, j, rfl, rfl, h⟩ := int2_some h
  obtain ⟨c, rfl⟩ := if_some h
  cases r1.int
  cases r2.int
  exact ⟨i, j, rfl, rfl, wide_div (b := 64) c.1 (by omega) (by decide) (by decide), q G H _ (Gx.refl e) fun _ => .int _⟩
def oMod := intIf (fun _ j => 0 < j) fun i j => i % j
def oPow := intIf CPow fun i j => i ^ j.toNat
def oNeg : PyData → Option PyData
  | .int i => some (.int (-i))
  | _ => none
theorem unf_neg : UnF K .val (rU fun i => .int (-i)) oNeg := fun G H d1 d x Q e r1 h q => by
  unfold oNeg at h
  split at h
  · cases h
    cases r1.int
    exact ⟨_, rfl, q G H _ (Gx.refl e) fun _ => .int _⟩
  · cases h
def cmpI (p : Int → Int → Bool) : PyData → PyData → Option PyData := int2 fun i j => some (.bool (p i j))
theorem opf_cmpI (p : Int → Int → Bool) : OpF K .val (rI0 fun i j => .bl (p i j)) (cmpI p) := fun G H d1 d2 d x y Q e r1 r2 h q => by
  obtain ⟨i, j, rfl, rfl, h⟩ := int2_some h
  cases h
  cases r1.int
  cases r2.int
  exact ⟨i, j, rfl, rfl, q G H _ (Gx.refl e) fun _ => .bl _⟩
def oLt := cmpI fun i j => decide (i < j)
def oLe := cmpI fun i j => decide (i ≤ j)
def oGt := cmpI fun i j => decide (j < i)
def oGe := cmpI fun i j => decide (j ≤ i)

/-! ### +, * on any kind -/
def rOr (r r' : R2) : R2 := fun x y H Q => r x y H Q ∨ r' x y H Q
theorem OpR.or {f : Value → Value → Sem Value} {r r' : R2} (h : OpR X f r) (h' : OpR X f r') : OpR X f (rOr r r') := by
  intro pins s σ H x y v u Q I rx ry q
  rcases q with q | q
  · exact h pins s σ H x y v u Q I rx ry q
  · exact h' pins s σ H x y v u Q I rx ry q
def oAdd : PyData → PyData → Option PyData
  | .int i, .int j => some (.int (i + j))
  | .str x, .str y => if x.length + y.length ≤ sizeLine then some (.str (x ++ y)) else none
  | .list xs, .list ys => if xs.length + ys.length ≤ sizeLine then some (.list (xs ++ ys)) else none
  | _, _ => none
def oCat : PyData → PyData → Option PyData
  | .list xs, .list ys => if xs.length + ys.length ≤ sizeLine then some (.list (xs ++ ys)) else none
  | _, _ => none
def rLstCat : R2 := fun x y H Q => ∃ l b xs zs, x = .ref l ∧ y = .ref b ∧ Rd H l (.lst xs) ∧ Rd H b (.lst zs) ∧ xs.length + zs.length ≤ sizeLine ∧ ∀ p, H p = none → Q (.ref p) (upd H p (.lst (xs ++ zs)))
theorem rd_lst {pins : List (Addr × Obj)} {σ : L2.St} {H : Hp} {s : Shared} {l : Addr} {xs : List V} (I : Inv X pins σ H s) (h : Rd H l (.lst xs)) :
    xs.length ≤ sizeLine ∧ ∃ (its : List Value) (n : Nat), Vals xs its ∧ xs.length = its.length ∧ s.heap.get? l = some { cls := .type "list", data := .seq its.toArray n } := by
  obtain ⟨z, its, n, r, e⟩ := h.ok I.hok
  exact ⟨z, its, n, r, r.length, e⟩
theorem op_lstCat : OpR X (binaryOp .Add) rLstCat := by
  intro pins s σ H x y v u Q I rx ry h
  obtain ⟨l, b, xs, zs, rfl, rfl, hH, hB, hz, q⟩ := h
  cases rx
  cases ry
  obtain ⟨z, its, n, r, hl, e⟩ := rd_lst I hH
  obtain ⟨z2, its2, n2, r2, hl2, e2⟩ := rd_lst I hB
  refine PySem.P.add_list e e2 ?_ (by rw [List.size_toArray, List.size_toArray]; omega)
  have ea : its.toArray ++ its2.toArray = (its ++ its2).toArray := by simp
  rw [ea]
  exact ⟨.ref _, _, I.lnew (t' := s.toks) (r.append r2) (by rw [List.length_append]; omega), rfl, q _ I.fresh⟩
theorem RepB.rd {G H : Hp} (e : Ex G H) {ds : List PyData} {v : V} (h : RepB K G H (.list ds) v) : ∃ a vs, v = .ref a ∧ Rd H a (.lst vs) ∧ RepA K G ds vs := by
  obtain ⟨a, vs, h1, st, r⟩ := h.seq
  exact ⟨a, vs, h1, st H e (Ex.refl _), r⟩
/-- a new list as a value: frozen, or own -/
theorem newList {m : Md} (hm : m = .val ∨ m = .new) {G H : Hp} (e : Ex G H) {p : Addr} (np : H p = none) {ds : List PyData} {vs : List V} (r : RepA K G ds vs) {Q : VK}
    (q : ∀ G' H' v, Gx G H G' H' → (∀ H0, RM K H0 H m G' H' (.list ds) v) → Q v H') : Q (.ref p) (upd H p (.lst vs)) := by
  rcases hm with rfl | rfl
  · exact q _ _ _ (Gx.new e np) fun _ => .lst (.inl upd_same) (r.mono (Ex.new (e.back np)))
  · exact q _ _ _ (Gx.mine e np) fun _ => ⟨p, rfl, np, e.back np, .lst upd_same r⟩
theorem opf_cat {m : Md} (hm : m = .val ∨ m = .new) : OpF K m rLstCat oCat := fun G H d1 d2 d x y Q e r1 r2 h q => by
  unfold oCat at h
  split at h
  · obtain ⟨hl, rfl⟩ := if_some h
    obtain ⟨a, vs, rfl, h1, ra⟩ := r1.rd e
    obtain ⟨b, us, rfl, h2, rb⟩ := r2.rd e
    exact ⟨a, b, vs, us, rfl, rfl, h1, h2, by rw [← ra.len, ← rb.len]; exact hl, fun p np => newList hm e np (ra.app rb) q⟩
  · cases h
def rAddAll : R2 := rOr (rI0 fun i j => .int (i + j)) (rOr (fun x y H Q => ∃ i j, x = .str i ∧ y = .str j ∧ i.length + j.length ≤ sizeLine ∧ Q (.str (i ++ j)) H) rLstCat)
theorem op_addAll : OpR X (binaryOp .Add) rAddAll := OpR.or op_add (OpR.or op_add_str op_lstCat)
theorem opf_addAll : OpF K .val rAddAll oAdd := fun G H d1 d2 d x y Q e r1 r2 h q => by
  unfold oAdd at h
  split at h
  · cases h
    cases r1.int
    cases r2.int
    exact .inl ⟨_, _, rfl, rfl, q G H _ (Gx.refl e) fun _ => .int _⟩
  · obtain ⟨hl, rfl⟩ := if_some h
    cases r1.str
    cases r2.str
    exact .inr (.inl ⟨_, _, rfl, rfl, hl, q G H _ (Gx.refl e) fun _ => .str _⟩)
  · exact .inr (.inr (opf_cat (.inl rfl) G H _ _ d x y Q e r1 r2 h q))
  · cases h
def repS (x : Str) (n : Nat) : Str := ⟨(List.replicate n x.cps.toList).flatten.toArray⟩
def oMul : PyData → PyData → Option PyData
  | .int i, .int j => if CMul i j then some (.int (i * j)) else none
  | .str x, .int n => if 0 ≤ n ∧ n ≤ 1000 ∧ x.length ≤ 10000 then some (.str (repS x n.toNat)) else none
  | .list xs, .int n => if 0 ≤ n ∧ n ≤ 1000 ∧ xs.length ≤ 10000 then some (.list (List.replicate n.toNat xs).flatten) else none
  | _, _ => none
theorem mulOk (x : Str) (n : Int) (h : 0 ≤ n ∧ n ≤ 1000 ∧ x.length ≤ 10000) : MulOk x n := by
  obtain ⟨h0, h1, h2⟩ := h
  refine ⟨?_, fun hn _ => ?_, fun hn _ => ?_⟩
  · rw [Bool.or_eq_false_iff]; exact ⟨decide_eq_false (by omega), decide_eq_false (by omega)⟩
  · have : (10000 : Int) ≤ (2 ^ 63 - 1) / n := Int.le_ediv_of_mul_le (by omega) (by omega)
    omega
  · unfold Builtin.Str.tooLong
    have : x.length * n.toNat ≤ 10000 * 1000 := Nat.mul_le_mul h2 (by omega)
    rw [sizeLine_eq]
    exact decide_eq_false (by omega)
theorem foldl_cps (l : List Nat) : ∀ (k : Nat) (acc : List Nat), List.foldl (fun x1 x2 => x1 ++ x2) acc.toArray (List.replicate k l.toArray) = (acc ++ (List.replicate k l).flatten).toArray
  | 0, acc => by simp
  | k + 1, acc => by
    have e : acc.toArray ++ l.toArray = (acc ++ l).toArray := by simp
    have e2 : (acc ++ l) ++ (List.replicate k l).flatten = acc ++ (List.replicate (k + 1) l).flatten := by
      rw [List.replicate_succ, List.flatten_cons, List.append_assoc]
    rw [← e2, ← foldl_cps l k (acc ++ l), ← e, List.replicate_succ, List.foldl_cons]
theorem mul_repS (x : Str) (n : Int) (h : 0 ≤ n) : Txt.mul x n = repS x n.toNat := by
  unfold Txt.mul repS
  by_cases h1 : n < 1
  · have : n = 0 := by omega
    subst this
    rw [if_pos h1]; rfl
  · rw [if_neg h1]
    by_cases h2 : (n == 1 || x.length == 0) = true
    · rw [if_pos h2]
      rw [Bool.or_eq_true] at h2
      rcases h2 with h2 | h2
      · have : n = 1 := eq_of_beq h2
        subst this
        obtain ⟨c⟩ := x
        simp
      · have h3 : x.cps.size = 0 := eq_of_beq h2
        obtain ⟨c⟩ := x
        have : c = #[] := by simpa using h3
        subst this
        simp
    · rw [if_neg h2]
      have := foldl_cps x.cps.toList n.toNat []
      simp only [Array.toArray_toList, List.nil_append] at this
      rw [← this]
def rMulS : R2 := fun x y H Q => ∃ z n, x = .str z ∧ y = .int n ∧ (0 ≤ n ∧ n ≤ 1000 ∧ z.length ≤ 10000) ∧ Q (.str (repS z n.toNat)) H
theorem op_mulS : OpR X (binaryOp .Mult) rMulS := by
  intro pins s σ H x y v u Q I rx ry h
  obtain ⟨z, n, rfl, rfl, hz, q⟩ := h
  obtain ⟨t, rfl⟩ := rx
  obtain ⟨t', rfl⟩ := ry
  refine SB.mul (mulOk z n hz) fun t2 k => ?_
  rw [mul_repS z n hz.1]
  exact ⟨.str _, H, I.tok _, ⟨_, rfl⟩, q⟩
def rMulL : R2 := fun x y H Q => ∃ l k xs, x = .ref l ∧ y = .int k ∧ H l = some (.lst xs) ∧ -(2 ^ 63) ≤ k ∧ k < 2 ^ 63 ∧ xs.length * k.toNat ≤ sizeLine ∧ ∀ p, H p = none → Q (.ref p) (upd H p (.lst (List.replicate k.toNat xs).flatten))
def rMulAll : R2 := rOr (rI CMul fun i j => .int (i * j)) rMulS
def oMulS : PyData → PyData → Option PyData
  | .int i, .int j => if CMul i j then some (.int (i * j)) else none
  | .str x, .int n => if 0 ≤ n ∧ n ≤ 1000 ∧ x.length ≤ 10000 then some (.str (repS x n.toNat)) else none
  | _, _ => none
theorem op_mulAll : OpR X (binaryOp .Mult) rMulAll := OpR.or op_mul op_mulS
theorem opf_mulAll : OpF K .val rMulAll oMulS := fun G H d1 d2 d x y Q e r1 r2 h q => by
  unfold oMulS at h
  split at h
  · obtain ⟨c, rfl⟩ := if_some h
    cases r1.int
    cases r2.int
    exact .inl ⟨_, _, rfl, rfl, c, q G H _ (Gx.refl e) fun _ => .int _⟩
  · obtain ⟨c, rfl⟩ := if_some h
    cases r1.str
    cases r2.int
    exact .inr ⟨_, _, rfl, rfl, c, q G H _ (Gx.refl e) fun _ => .str _⟩
  · cases h

/-! ### ==, in, is -/
def oEq (a b : PyData) : Option PyData := if SeqAt.shaped a = true ∧ SeqAt.shaped b = true then some (.bool (PyData.eqv a b)) else none
def oNe (a b : PyData) : Option PyData := if SeqAt.shaped a = true ∧ SeqAt.shaped b = true then some (.bool (!PyData.eqv a b)) else none
theorem opf_eq : OpF K .val (rEqD K) oEq := fun G H d1 d2 d x y Q e r1 r2 h q => by
  obtain ⟨⟨c1, c2⟩, rfl⟩ := if_some h
  exact ⟨d1, d2, r1.dp e (SeqAt.canLay_of_shaped c1), r2.dp e (SeqAt.canLay_of_shaped c2), c1, c2, q G H _ (Gx.refl e) fun _ => .bl _⟩
theorem opf_ne : OpF K .val (rNeD K) oNe := fun G H d1 d2 d x y Q e r1 r2 h q => by
  obtain ⟨⟨c1, c2⟩, rfl⟩ := if_some h
  exact ⟨d1, d2, r1.dp e (SeqAt.canLay_of_shaped c1), r2.dp e (SeqAt.canLay_of_shaped c2), c1, c2, q G H _ (Gx.refl e) fun _ => .bl _⟩
def isNon : PyData → Bool
  | .none => true
  | _ => false
def oIsN (a b : PyData) : Option PyData := match b with
  | .none => some (.bool (isNon a))
  | _ => none
def oNotN (a b : PyData) : Option PyData := match b with
  | .none => some (.bool (!isNon a))
  | _ => none
theorem isN_dec {G H : Hp} {d : PyData} {v : V} (r : RepB K G H d v) : decide (v = .non) = isNon d := by
  cases r with
  | val r => cases r <;> rfl
  | lst _ _ => rfl
  | dK _ _ _ => rfl
  | dT _ _ _ => rfl
theorem opf_isN : OpF K .val (fun x y H Q => y = .non ∧ Q (.bl (decide (x = .non))) H) oIsN := fun G H d1 d2 d x y Q e r1 r2 h q => by
  unfold oIsN at h
  split at h
  · cases h
    cases r2.non
    exact ⟨rfl, q G H _ (Gx.refl e) fun _ => by rw [isN_dec r1]; exact .bl _⟩
  · cases h
theorem opf_notN : OpF K .val (fun x y H Q => y = .non ∧ Q (.bl (!decide (x = .non))) H) oNotN := fun G H d1 d2 d x y Q e r1 r2 h q => by
  unfold oNotN at h
  split at h
  · cases h
    cases r2.non
    exact ⟨rfl, q G H _ (Gx.refl e) fun _ => by rw [isN_dec r1]; exact .bl _⟩
  · cases h
def oIsB (a b : PyData) : Option PyData := match a, b with
  | .bool x, .bool y => some (.bool (decide (x = y)))
  | _, _ => none
def oNotB (a b : PyData) : Option PyData := match a, b with
  | .bool x, .bool y => some (.bool (!decide (x = y)))
  | _, _ => none
/-- a sign in a text -/
def oInS (a b : PyData) : Option PyData := match a, b with
  | .str x, .str y => if x.cps.size = 1 then some (.bool (decide (x.cps.getD 0 0 ∈ y.cps.toList))) else none
  | _, _ => none
def oNotInS (a b : PyData) : Option PyData := match a, b with
  | .str x, .str y => if x.cps.size = 1 then some (.bool (!decide (x.cps.getD 0 0 ∈ y.cps.toList))) else none
  | _, _ => none
theorem one_sign {x : Str} (h : x.cps.size = 1) : x = ⟨#[x.cps.getD 0 0]⟩ := by
  obtain ⟨⟨l⟩⟩ := x
  match l, h with
  | [c], _ => rfl
theorem opf_inS : OpF K .val (fun x y H Q => ∃ (c : Nat) (z : Str), x = .str ⟨#[c]⟩ ∧ y = .str z ∧ Q (.bl (decide (c ∈ z.cps.toList))) H) oInS := fun G H d1 d2 d x y Q e r1 r2 h q => by
  unfold oInS at h
  split at h
  · obtain ⟨c, rfl⟩ := if_some h
    cases r1.str
    cases r2.str
    exact ⟨_, _, congrArg _ (one_sign c), rfl, q G H _ (Gx.refl e) fun _ => .bl _⟩
  · cases h
end
end DV

namespace DV
open PySem L2

/-! ### subscripts and slices -/
section
variable {K : PySem.W.Frag} {X : Cx} {a b e : Expr} {f g : SE} {m : Md} {pos p2 : Pos} {lo hi : Option Expr}
theorem RepA.atI {G : Hp} {ds : List PyData} {vs : List V} {i : Int} {d : PyData} (r : RepA K G ds vs) (h : L2.atI ds i = some d) : ∃ v, L2.atI vs i = some v ∧ Rep K G d v := by
  unfold L2.atI at h ⊢
  rw [r.len] at h
  cases e : ixN vs.length i with
  | none => rw [e] at h; cases h
  | some j => rw [e] at h; exact r.get h
def oIx : PyData → PyData → Option PyData
  | .list ds, .int i => atI ds i
  | .tuple ds, .int i => atI ds i
  | .str z, .int i => if z.length ≤ sizeLine then (atI z.cps.toList i).map fun c => .str ⟨#[c]⟩ else none
  | _, _ => none
theorem oIx_inv : ∀ {d1 d2 d : PyData}, oIx d1 d2 = some d → ∃ i, d2 = .int i ∧ ((∃ l, d1 = .list l ∧ atI l i = some d) ∨ (∃ l, d1 = .tuple l ∧ atI l i = some d) ∨ ∃ z c, d1 = .str z ∧ z.length ≤ sizeLine ∧ atI z.cps.toList i = some c ∧ d = .str ⟨#[c]⟩)
  | .list l, .int i, d, h => ⟨i, rfl, .inl ⟨l, rfl, h⟩⟩
  | .tuple l, .int i, d, h => ⟨i, rfl, .inr (.inl ⟨l, rfl, h⟩)⟩
  | .str z, .int i, d, h => by
    obtain ⟨hl, h⟩ := ite_some (show (if z.length ≤ sizeLine then (atI z.cps.toList i).map fun c => PyData.str ⟨#[c]⟩ else none) = some d from h)
    cases h2 : atI z.cps.toList i with
    | none => rw [h2] at h; cases h
    | some c =>
      rw [h2] at h
      cases h
      exact ⟨i, rfl, .inr (.inr ⟨z, c, rfl, hl, h2, rfl⟩)⟩
theorem opf_ix : OpF K .val (rIx K) oIx := fun G H d1 d2 d x y Q e r1 r2 h q => by
  obtain ⟨i, rfl, ⟨l, rfl, h⟩ | ⟨l, rfl, h⟩ | ⟨z, c, rfl, hl, h7, rfl⟩⟩ := oIx_inv h
  · cases r2.int
    obtain ⟨a, vs, rfl, h1, ra⟩ := r1.rd e
    obtain ⟨v, h2, h3⟩ := ra.atI h
    exact .inl ⟨a, vs, _, v, rfl, rfl, .inl h1, h2, q G H _ (Gx.refl e) fun _ => h3⟩
  · cases r2.int
    obtain ⟨a, vs, rfl, h1, ra⟩ := r1.seqT
    obtain ⟨v, h2, h3⟩ := ra.atI h
    exact .inr (.inl ⟨a, vs, _, v, rfl, rfl, h1 H e, h2, q G H _ (Gx.refl e) fun _ => h3⟩)
  · cases r2.int
    cases r1.str
    exact .inr (.inr ⟨_, _, c, rfl, rfl, hl, h7, q G H _ (Gx.refl e) fun _ => .str _⟩)
theorem d_ix (ha : DX X .bor a f) (hb : DX X .bor b g) (hs : PlainIx b := by intro _ _; rfl) : DX X .val (.Subscript a b pos) (eOp oIx f g) :=
  ⟨(pe_ix ix_seq ha.pe hb.pe hs).imp fun _ _ _ q => op_two opf_ix q⟩
/-- parts of slices -/
abbrev SO := Rho → Option (Option Int)
def tO (K : PySem.W.Frag) (f : SO) : TO := fun σ H Q => ∃ G0 H0 G ρ o, Sok K G0 H0 G ρ σ H ∧ f ρ = some o ∧ ∀ G' H', Gx G H G' H' → Q o H'
structure DO (X : Cx) (e : Option Expr) (f : SO) : Prop where
  po : PO X e (tO X.K f)
theorem _root_.L2.PO.imp {e : Option Expr} {t t' : TO} (h : PO X e t) (w : ∀ σ H Q, t' σ H Q → t σ H Q) : PO X e t' := ⟨fun pins s σ H Q I q => h.run pins s σ H Q I (w σ H Q q)⟩
def oNo : SO := fun _ => some none
def asI : PyData → Option (Option Int)
  | .int i => some (some i)
  | _ => none
def oSo (f : SE) : SO := fun ρ => (f ρ).bind asI
theorem o_no : DO X none oNo := ⟨po_none.imp fun σ H Q ⟨G0, H0, G, ρ, o, s, ed, q⟩ => by
  cases ed
  exact q G H (Gx.refl s.gx.gh)⟩
theorem o_so (h : DX X .val e f) : DO X (some e) (oSo f) := ⟨(po_some h.pe).imp fun σ H Q ⟨G0, H0, G, ρ, o, s, ed, q⟩ => by
  obtain ⟨d1, e1, ed⟩ := bind_some ed
  unfold asI at ed
  split at ed
  · cases ed
    refine ⟨G0, H0, G, ρ, _, s, e1, fun G1 H1 v gx r => ?_⟩
    cases (show Rep X.K G1 (.int _) v from r)
    exact ⟨_, rfl, q G1 H1 gx⟩
  · cases ed⟩
def cutD (xs : List PyData) (lo hi : Option Int) : List PyData := (xs.drop (HT.sIx xs.length 0 lo)).take (HT.sIx xs.length xs.length hi - HT.sIx xs.length 0 lo)
theorem RepA.cut {G : Hp} {ds : List PyData} {vs : List V} (r : RepA K G ds vs) (lo hi : Option Int) : RepA K G (cutD ds lo hi) (cutV vs lo hi) := by
  unfold cutD cutV
  rw [r.len]
  exact (r.drop _).take _
def oSl (d : PyData) (lo hi : Option Int) : Option PyData := match d with
  | .list ds => some (.list (cutD ds lo hi))
  | .str z => if z.length ≤ sizeLine then some (.str (cutS z lo hi)) else none
  | _ => none
def oSlL (d : PyData) (lo hi : Option Int) : Option PyData := match d with
  | .list ds => some (.list (cutD ds lo hi))
  | _ => none
def eSl (F : PyData → Option Int → Option Int → Option PyData) (f : SE) (g h : SO) : SE := fun ρ => (f ρ).bind fun d => (g ρ).bind fun lo => (h ρ).bind fun hi => F d lo hi
variable {gl gh : SO}
theorem sl_three {K : PySem.W.Frag} {r : V → Option Int → Option Int → Hp → VK → Prop} {mo : Md} {F : PyData → Option Int → Option Int → Option PyData}
    (hF : ∀ (G0 H0 G1 H1 G H : Hp) (d1 d : PyData) (lo hi : Option Int) (x : V) (Q : VK), Ex G H → Gx G1 H1 G H → RM K H0 H0 mo G H d1 x → F d1 lo hi = some d → (∀ G' H' v, Gx G H G' H' → RM K H0 H m G' H' d v → Q v H') → r x lo hi H Q) (hmo : ∀ {H0 Hs G H d v}, RM K H0 Hs mo G H d v → RM K H0 H0 mo G H d v) :
    ∀ σ H Q, tE K m (eSl F f gl gh) σ H Q → tSl r (tE K mo f) (tO K gl) (tO K gh) σ H Q := fun σ H Q ⟨G0, H0, G, ρ, d, s, ed, q⟩ => by
  obtain ⟨d1, e1, ed⟩ := bind_some ed
  obtain ⟨lo, e2, ed⟩ := bind_some ed
  obtain ⟨hi, e3, ed⟩ := bind_some ed
  refine ⟨G0, H0, G, ρ, d1, s, e1, fun G1 H1 x gx1 r1 => ⟨G0, H0, G1, ρ, lo, s.gx' gx1, e2, fun G2 H2 gx2 => ⟨G0, H0, G2, ρ, hi, (s.gx' gx1).gx' gx2, e3, fun G3 H3 gx3 => ?_⟩⟩⟩
  have gx := (gx1.trans gx2).trans gx3
  exact hF G0.g H0 G H G3 H3 d1 d lo hi x Q gx3.gh gx (hmo (r1.mono (gx2.trans gx3))) ed fun G' H' v gx4 r4 => q G' H' v (gx.trans gx4) (r4.start gx.h)
theorem d_slice (ha : DX X .bor e f) (hl : DO X lo gl) (hu : DO X hi gh) : DX X .val (.Subscript e (.Slice lo hi none p2) pos) (eSl oSl f gl gh) :=
  ⟨(pe_slice (SlR.or sl_list sl_str) ha.pe hl.po hu.po).imp (sl_three (mo := .bor) (fun G0 H0 G1 H1 G H d1 d lo hi x Q e gx r1 h q => by
    unfold oSl at h
    split at h
    · cases h
      obtain ⟨a, vs, rfl, h1, ra⟩ := RepB.rd e r1
      exact .inl ⟨a, vs, rfl, .inl h1, fun p np => newList (.inl rfl) e np (ra.cut lo hi) fun G' H' v gx' r' => q G' H' v gx' (r' H0)⟩
    · obtain ⟨hz, rfl⟩ := if_some h
      cases RepB.str r1
      exact .inr ⟨_, rfl, hz, q G H _ (Gx.refl e) (.str _)⟩
    · cases h) fun h => h)⟩
def oRev : PyData → Option PyData
  | .list ds => some (.list ds.reverse)
  | _ => none
end

/-! ### calls of built-ins -/
inductive RepBA (K : PySem.W.Frag) (G H : Hp) : List PyData → List V → Prop
  | nil : RepBA K G H [] []
  | cons {d : PyData} {ds : List PyData} {v : V} {vs : List V} : RepB K G H d v → RepBA K G H ds vs → RepBA K G H (d :: ds) (v :: vs)
theorem RMs.bors {K : PySem.W.Frag} {H0 Hs G H : Hp} : ∀ {ms : List Md} {ds : List PyData} {vs : List V}, (∀ m ∈ ms, m = .bor) → RMs K H0 Hs G H ms ds vs → RepBA K G H ds vs
  | _, _, _, _, .nil => .nil
  | m :: _, _, _, q, .cons h t => by
    have e : m = .bor := q m List.mem_cons_self
    subst e
    exact .cons h (RMs.bors (fun m hm => q m (List.mem_cons_of_mem _ hm)) t)
theorem RepBA.one {K : PySem.W.Frag} {G H : Hp} {d : PyData} {vs : List V} (h : RepBA K G H [d] vs) : ∃ v, vs = [v] ∧ RepB K G H d v := by
  cases h with
  | cons h t => cases t; exact ⟨_, rfl, h⟩
theorem RepBA.two {K : PySem.W.Frag} {G H : Hp} {d d' : PyData} {vs : List V} (h : RepBA K G H [d, d'] vs) : ∃ v v', vs = [v, v'] ∧ RepB K G H d v ∧ RepB K G H d' v' := by
  cases h with
  | cons h t =>
    obtain ⟨w, rfl, h2⟩ := t.one
    exact ⟨_, _, rfl, h, h2⟩
def CallF (K : PySem.W.Frag) (m : Md) (r : List V → Hp → VK → Prop) (F : List PyData → Option PyData) : Prop :=
  ∀ (G H : Hp) (ds : List PyData) (d : PyData) (vs : List V) (Q : VK), Ex G H → RepBA K G H ds vs → F ds = some d → (∀ G' H' v, Gx G H G' H' → (∀ H0, RM K H0 H m G' H' d v) → Q v H') → r vs H Q
section
variable {K : PySem.W.Frag} {X : Cx} {e : Expr} {es : List Expr} {m : Md} {ms : List Md} {pos p : Pos} {r : List V → Hp → VK → Prop} {ra : SA} {F : List PyData → Option PyData} {x : Str} {id T : String}
theorem callB_of {K : PySem.W.Frag} (hF : CallF K m r F) (hms : ∀ m ∈ ms, m = .bor) : ∀ σ H Q, tE K m (eCall F ra) σ H Q → tCB r (tA K ms ra) σ H Q := fun σ H Q ⟨G0, H0, G, ρ, d, s, ed, q⟩ => by
  obtain ⟨ds, e1, e2⟩ := bind_some ed
  refine ⟨G0, H0, G, ρ, ds, s, e1, fun G' H' vs gx rr => ?_⟩
  exact hF G' H' ds d vs Q gx.gh (rr.bors hms) e2 fun G2 H2 v gx2 r2 => q G2 H2 v (gx.trans gx2) ((r2 H0).start gx.h)
theorem d_callB (hc : CallR X (.builtin id) r) (hF : CallF X.K m r F) (hms : ∀ m ∈ ms, m = .bor) (hg : Gl X x) (hm : X.mg x = none) (hv : bootBuiltins x = some (.builtin id)) (ha : DA X ms (e :: es) ra) (hn : x ≠ "__name__" := by decide) (hdb : (x == ("__debug__" : Str)) = false := by decide)
    (he : starEach (e :: es) X.env = (false, eval e X.env) :: starEach es X.env := by rfl) (hpl : (backTo pos (starEach es X.env)).any (·.1) = false := by rfl) : DX X m (.Call (.Name x p) (e :: es) [] pos) (eCall F ra) :=
  ⟨(pe_callB hc hg hm hv ha.pa hn hdb he hpl).imp (callB_of hF hms)⟩
theorem d_callTy (hc : CallR X (.type T) r) (hF : CallF X.K m r F) (hms : ∀ m ∈ ms, m = .bor) (hg : Gl X x) (hm : X.mg x = none) (hv : bootBuiltins x = some (.type T)) (ha : DA X ms (e :: es) ra) (hn : x ≠ "__name__" := by decide) (hdb : (x == ("__debug__" : Str)) = false := by decide)
    (he : starEach (e :: es) X.env = (false, eval e X.env) :: starEach es X.env := by rfl) (hpl : (backTo pos (starEach es X.env)).any (·.1) = false := by rfl) : DX X m (.Call (.Name x p) (e :: es) [] pos) (eCall F ra) :=
  ⟨(pe_callTy hc hg hm hv ha.pa hn hdb he hpl).imp (callB_of hF hms)⟩
end
end DV

namespace DV
open PySem L2

/-! ### the built-ins -/
section
variable {K : PySem.W.Frag} {X : Cx}
def cLen : List PyData → Option PyData
  | [.list l] => some (.int (l.length : Nat))
  | [.tuple l] => some (.int (l.length : Nat))
  | [.str z] => if z.length ≤ sizeLine then some (.int (z.length : Nat)) else none
  | _ => none
theorem cf_len : CallF K .val (fun xs H Q => ∃ x n, xs = [x] ∧ LenV K x H n ∧ Q (.int n) H) cLen := fun G H ds d vs Q e r h q => by
  unfold cLen at h
  split at h
  · cases h
    obtain ⟨v, rfl, r1⟩ := r.one
    obtain ⟨a, us, rfl, h1, ra⟩ := r1.rd e
    exact ⟨_, _, rfl, .inl ⟨us, .inl h1, ra.len⟩, q G H _ (Gx.refl e) fun _ => .int _⟩
  · cases h
    obtain ⟨v, rfl, r1⟩ := r.one
    obtain ⟨a, us, rfl, h1, ra⟩ := r1.seqT
    exact ⟨_, _, rfl, .inr ⟨us, h1 H e, ra.len⟩, q G H _ (Gx.refl e) fun _ => .int _⟩
  · obtain ⟨hz, rfl⟩ := if_some h
    obtain ⟨v, rfl, r1⟩ := r.one
    cases r1.str
    exact ⟨_, _, rfl, ⟨hz, rfl⟩, q G H _ (Gx.refl e) fun _ => .int _⟩
  · cases h
/-- int(n) -/
def cInt : List PyData → Option PyData
  | [.int i] => some (.int i)
  | [.bool k] => some (.int (if k then 1 else 0))
  | _ => none
theorem cf_int : CallF K .val (fun xs H Q => (∃ i, xs = [.int i] ∧ Q (.int i) H) ∨ ∃ k, xs = [.bl k] ∧ Q (.int (if k then 1 else 0)) H) cInt := fun G H ds d vs Q e r h q => by
  unfold cInt at h
  split at h
  · cases h
    obtain ⟨v, rfl, r1⟩ := r.one
    cases r1.int
    exact .inl ⟨_, rfl, q G H _ (Gx.refl e) fun _ => .int _⟩
  · cases h
    obtain ⟨v, rfl, r1⟩ := r.one
    cases r1.bl
    exact .inr ⟨_, rfl, q G H _ (Gx.refl e) fun _ => .int _⟩
  · cases h
def cAbs : List PyData → Option PyData
  | [.int i] => some (.int (if i < 0 then -i else i))
  | _ => none
def cMax2 : List PyData → Option PyData
  | [.int i, .int j] => some (.int (if j > i then j else i))
  | _ => none
def cMin2 : List PyData → Option PyData
  | [.int i, .int j] => some (.int (if j < i then j else i))
  | _ => none
theorem cf_max2 : CallF K .val (fun xs H Q => ∃ i j, xs = [.int i, .int j] ∧ Q (.int (if j > i then j else i)) H) cMax2 := fun G H ds d vs Q e r h q => by
  unfold cMax2 at h
  split at h
  · cases h
    obtain ⟨v, w, rfl, r1, r2⟩ := r.two
    cases r1.int
    cases r2.int
    exact ⟨_, _, rfl, q G H _ (Gx.refl e) fun _ => .int _⟩
  · cases h
/-- all ints -/
def intsOf : List PyData → Option (List Int)
  | [] => some []
  | .int i :: r => (intsOf r).map (i :: ·)
  | _ => none
theorem intsOf_some : ∀ {ds : List PyData} {ns : List Int}, intsOf ds = some ns → ds = ns.map .int
  | [], ns, h => by cases h; rfl
  | .int i :: r, ns, h => by
    unfold intsOf at h
    cases e : intsOf r with
    | none => rw [e] at h; cases h
    | some ms => rw [e] at h; cases h; rw [intsOf_some e]; rfl
theorem intsOf_map (ns : List Int) : intsOf (ns.map .int) = some ns := by
  induction ns with
  | nil => rfl
  | cons n r ih => show (intsOf (r.map .int)).map (n :: ·) = _; rw [ih]; rfl
def cSum : List PyData → Option PyData
  | [.list l] => (intsOf l).map fun ns => .int ns.sum
  | _ => none
theorem map_some {α β : Type} {o : Option α} {k : α → β} {b : β} (h : o.map k = some b) : ∃ a, o = some a ∧ k a = b := by
  cases o with
  | none => cases h
  | some a => exact ⟨a, rfl, Option.some.inj h⟩
theorem RepB.ints {G H : Hp} (e : Ex G H) {ns : List Int} {v : V} (r : RepB K G H (.list (ns.map .int)) v) : ∃ a, v = .ref a ∧ Rd H a (.lst (ns.map V.int)) := by
  obtain ⟨a, us, rfl, h1, ra⟩ := r.rd e
  cases ra.ofInts
  exact ⟨a, rfl, h1⟩
theorem cf_sum : CallF K .val (rSum K) cSum := fun G H ds d vs Q e r h q => by
  unfold cSum at h
  split at h
  · obtain ⟨ns, h1, rfl⟩ := map_some h
    obtain ⟨v, rfl, r1⟩ := r.one
    cases intsOf_some h1
    obtain ⟨a, rfl, h2⟩ := r1.ints e
    exact ⟨a, ns, rfl, .inl h2, q G H _ (Gx.refl e) fun _ => .int _⟩
  · cases h
def maxL : Int → List Int → Int
  | m, [] => m
  | m, x :: r => maxL (max m x) r
def minL : Int → List Int → Int
  | m, [] => m
  | m, x :: r => minL (min m x) r
theorem maxL_ge : ∀ (r : List Int) (m : Int), m ≤ maxL m r ∧ ∀ y ∈ r, y ≤ maxL m r
  | [], m => ⟨Int.le_refl _, fun y h => by cases h⟩
  | x :: r, m => by
    obtain ⟨h1, h2⟩ := maxL_ge r (max m x)
    refine ⟨by show m ≤ maxL (max m x) r; omega, fun y hy => ?_⟩
    show y ≤ maxL (max m x) r
    rcases List.mem_cons.mp hy with rfl | hy
    · omega
    · exact h2 y hy
theorem maxL_mem : ∀ (r : List Int) (m : Int), maxL m r = m ∨ maxL m r ∈ r
  | [], m => .inl rfl
  | x :: r, m => by
    show maxL (max m x) r = m ∨ maxL (max m x) r ∈ x :: r
    rcases maxL_mem r (max m x) with h | h
    · by_cases c : m ≤ x
      · right; rw [h, show max m x = x by omega]; exact List.mem_cons_self
      · left; rw [h]; omega
    · exact .inr (List.mem_cons_of_mem _ h)
def cMaxL : List PyData → Option PyData
  | [.list l] => (intsOf l).bind fun ns => match ns with
    | n :: r => some (.int (maxL n r))
    | [] => none
  | _ => none
def cMinL : List PyData → Option PyData
  | [.list l] => (intsOf l).bind fun ns => match ns with
    | n :: r => some (.int (minL n r))
    | [] => none
  | _ => none
theorem maxL_eq {n m : Int} {r : List Int} (hm : m ∈ n :: r) (hall : ∀ y, y ∈ n :: r → y ≤ m) : m = maxL n r := by
  have z1 : m ≤ maxL n r := by
    rcases List.mem_cons.mp hm with rfl | hm
    · exact (maxL_ge r _).1
    · exact (maxL_ge r n).2 m hm
  have z2 : maxL n r ≤ m := by
    rcases maxL_mem r n with z | z
    · rw [z]; exact hall n List.mem_cons_self
    · exact hall _ (List.mem_cons_of_mem _ z)
  omega
theorem cf_maxL : CallF K .val (rMax K) cMaxL := fun G H ds d vs Q e r h q => by
  unfold cMaxL at h
  split at h
  · obtain ⟨ns, h1, h2⟩ := bind_some h
    cases ns with
    | nil => cases h2
    | cons n t =>
      cases h2
      obtain ⟨v, rfl, r1⟩ := r.one
      cases intsOf_some h1
      obtain ⟨a, rfl, h2⟩ := r1.ints e
      refine ⟨a, _, rfl, .inl h2, Nat.succ_pos _, fun m hm hall => ?_⟩
      rw [maxL_eq hm hall]
      exact q G H _ (Gx.refl e) fun _ => .int _
  · cases h
def boolsOf : List PyData → Option (List Bool)
  | [] => some []
  | .bool i :: r => (boolsOf r).map (i :: ·)
  | _ => none
def cAny : List PyData → Option PyData
  | [.list l] => (boolsOf l).map fun ns => .bool (ns.any id)
  | _ => none
/-- list(a list, a tuple) -/
def cList : List PyData → Option PyData
  | [.list l] => some (.list l)
  | [.tuple l] => some (.list l)
  | _ => none
theorem cf_list : CallF K .new (fun xs H Q => ∃ p ys, xs = [.ref p] ∧ (SqL K H p ys ∨ SqT K H p ys) ∧ ∀ l, H l = none → Q (.ref l) (upd H l (.lst ys))) cList := fun G H ds d vs Q e r h q => by
  unfold cList at h
  split at h
  · cases h
    obtain ⟨v, rfl, r1⟩ := r.one
    obtain ⟨a, us, rfl, h2, ra⟩ := r1.rd e
    exact ⟨a, us, rfl, .inl (.inl h2), fun p np => newList (.inr rfl) e np ra q⟩
  · cases h
    obtain ⟨v, rfl, r1⟩ := r.one
    obtain ⟨a, us, rfl, h2, ra⟩ := r1.seqT
    exact ⟨a, us, rfl, .inr (h2 H e), fun p np => newList (.inr rfl) e np ra q⟩
  · cases h
end

/-! ### isinstance of a built-in class -/
def tyName : PyData → String
  | .none => "NoneType"
  | .bool _ => "bool"
  | .int _ => "int"
  | .str _ => "str"
  | .list _ => "list"
  | .tuple _ => "tuple"
  | .dict _ => "dict"
def isT (T : String) : PyData → Option Bool
  | .bool _ => some (T == "bool" || T == "int")
  | .dict _ => none
  | d => some (tyName d == T)
def eIs (T : String) (f : SE) : SE := fun ρ => (f ρ).bind fun d => (isT T d).map .bool
theorem rep_ty {K : PySem.W.Frag} {G H : Hp} (e : Ex G H) {d : PyData} {v : V} (nd : ∀ es, d ≠ .dict es) (r : RepB K G H d v) : TyX K H v (.type (tyName d)) := by
  cases r with
  | lst h _ => exact .base (.lst h)
  | dK h _ _ => exact .base (.dK h)
  | dT h _ _ => exact .base (.dT h)
  | val r =>
    cases r with
    | non => exact .base .non
    | bl b => exact .base (.bl b)
    | int i => exact .base (.int i)
    | str x => exact .base (.str x)
    | lst h _ =>
      rcases e.rd h with h | ⟨o, h⟩
      · exact .base (.lst h)
      · exact .base (.frz h)
    | tup h _ =>
      rcases e.sqt (K := K) (sqtOf h) with (h | ⟨o, h⟩) | ⟨o, its, n, k, c, _⟩
      · exact .base (.tup h)
      · exact .fTuple h
      · exact .kTuple k c
    | dK h _ _ => exact absurd rfl (nd _)
    | dT h _ _ => exact absurd rfl (nd _)
/-- the built-in class T, for which the model's own answers are what isT says -/
def TyOkT (T : String) : Prop := ∀ n ∈ ["NoneType", "int", "str", "list", "tuple"], kitB n T = some (n == T)
theorem d_isi {X : Cx} {T : String} {a : Expr} {f : SE} {y : Str} {p p1 pos : Pos} (hg : Gl X "isinstance") (hm : X.mg "isinstance" = none) (ha : DX X .bor a f)
    (hgT : Gl X y) (hmT : X.mg y = none) (hvT : bootBuiltins y = some (.type T)) (ok : TyOkT T) (okB : kitB "bool" T = some (T == "bool" || T == "int"))
    (hnT : y ≠ "__name__" := by decide) (hdT : (y == ("__debug__" : Str)) = false := by decide)
    (he : starEach [a, .Name y p1] X.env = (false, eval a X.env) :: starEach [.Name y p1] X.env := by rfl) (hpl : (backTo pos (starEach [.Name y p1] X.env)).any (·.1) = false := by rfl) (h2 : starEach [.Name y p1] X.env = (false, eval (.Name y p1) X.env) :: starEach [] X.env := by rfl) :
    DX X .val (.Call (.Name "isinstance" p) [a, .Name y p1] [] pos) (eIs T f) :=
  ⟨(pe_callB call_isi hg hm PyProof.Rows.boot_isinstance (pa_cons ha.pe (pa_cons (pe_bltn (v := .ty T) hgT hmT hvT rfl hnT hdT) pa_nil h2) he) (by decide) (by decide) he hpl).imp fun σ H Q ⟨G0, H0, G, ρ, d, s, ed, q⟩ => by
    obtain ⟨d1, e1, ed⟩ := bind_some ed
    obtain ⟨k, e2, rfl⟩ := map_some ed
    refine ⟨G0, H0, G, ρ, d1, s, e1, fun G1 H1 v gx r => ?_⟩
    have nd : ∀ es, d1 ≠ .dict es := fun es z => by subst z; cases e2
    have kk : kitB (tyName d1) T = some k := by
      cases d1 with
      | bool b => rw [show tyName (.bool b) = "bool" from rfl, okB]; exact e2
      | dict es => exact absurd rfl (nd es)
      | none => rw [ok _ (by decide)]; exact e2
      | int i => rw [show tyName (.int i) = "int" from rfl, ok _ (by decide)]; exact e2
      | str i => rw [show tyName (.str i) = "str" from rfl, ok _ (by decide)]; exact e2
      | list i => rw [show tyName (.list i) = "list" from rfl, ok _ (by decide)]; exact e2
      | tuple i => rw [show tyName (.tuple i) = "tuple" from rfl, ok _ (by decide)]; exact e2
    exact ⟨v, .ty T, .type (tyName d1), .type T, k, rfl, .ty T, rep_ty gx.gh nd r, kit_ty kk, q G1 H1 _ gx (.bl _)⟩⟩
theorem okT_int : TyOkT "int" := by unfold TyOkT; decide +kernel
theorem okT_bool : TyOkT "bool" := by unfold TyOkT; decide +kernel
theorem okT_list : TyOkT "list" := by unfold TyOkT; decide +kernel
/-! ### own lists change -/
section
variable {X : Cx} {rm : Md} {a b e : Expr} {f g : SE} {r : SA} {pos p2 p1 cpos apos : Pos} {x : Str}
/-- what an own slot holds becomes F of it and a value -/
def sMut (F : List PyData → List PyData → Option PyData) (i : Nat) (r : SA) : SS := fun ρ => match ρ[i]? with
  | some (.own (.list l)) => (r ρ).bind fun ds => (F l ds).bind fun d => some (.nx (ρ.set i (.own d)))
  | _ => none
theorem own_list {K : PySem.W.Frag} {G H : Hp} {a : Addr} {l : List PyData} (h : Own K G H a (.list l)) : ∃ vs, H a = some (.lst vs) ∧ RepA K G l vs := by
  cases h with
  | lst h r => exact ⟨_, h, r⟩
/-- a method of an own list that is dropped as a statement -/
theorem mut_of {K : PySem.W.Frag} {i : Nat} {ms : List Md} {rr : V → List V → Hp → VK → Prop} {F : List PyData → List PyData → Option PyData}
    (hF : ∀ (G H : Hp) (l ds : List PyData) (d : PyData) (vs us : List V) (p : Addr) (Q : VK), Ex G H → H p = some (.lst vs) → RepA K G l vs → RepA K G ds us → F l ds = some d → (∀ o v, Own K G (upd H p o) p d → Q v (upd H p o)) → rr (.ref p) us H Q)
    (hms : ∀ m ∈ ms, m = .val) : ∀ D σ H, tS K rm (sMut F i r) D σ H → tDrop (tBM K "list" rr (tVar i) (tA K ms r)) D σ H := fun D σ H ⟨G0, H0, G, ρ, o, s, e, q⟩ => by
  unfold sMut at e
  split at e
  · rename_i l h
    obtain ⟨ds, e1, e⟩ := bind_some e
    obtain ⟨d, e2, e⟩ := bind_some e
    cases e
    obtain ⟨p, h1, h2, h3, h4⟩ := s.own h
    obtain ⟨vs, hv, _⟩ := own_list h4
    refine ⟨_, h1, .inl ⟨rfl, _, SqL.of hv⟩, G0, H0, G, ρ, ds, s, e1, fun G1 H1 us gx ra => ?_⟩
    have s1 := s.gx' gx
    obtain ⟨p', k1, k2, k3, k4⟩ := s1.own h
    rw [h1] at k1; cases k1
    obtain ⟨vs', hv', rl⟩ := own_list k4
    exact hF G1 H1 l ds d vs' us p _ gx.gh hv' rl (ra.vals hms) e2 fun o v ow => q G1 σ _ gx.g (s1.write h h1 k2 k3 ow)
  · cases e
def fApp : List PyData → List PyData → Option PyData := fun l ds => match ds with
  | [d] => if l.length < sizeLine then some (.list (l ++ [d])) else none
  | _ => none
theorem s_app (i : Nat) (ha : DX X .val a f) (hN : X.N[i]? = some x := by rfl) (hv : Vis X.env.scope x := by first | exact Or.inl rfl | exact Or.inr (Or.inl rfl) | exact Or.inr (Or.inr rfl)) (hd : (x == ("__debug__" : Str)) = false := by decide)
    (hcd : (x == ("__classdict__" : Str)) = false := by decide)
    (hbase : attributeBase (.Name x p1) "append" X.env (eval (.Name x p1) X.env) = eval (.Name x p1) X.env := by rfl)
    (hfew : ((backTo cpos (starEach (a :: []) X.env)).all (fun x => !x.1) && (backToKw cpos (keywordEach [] X.env)).all (fun x => x.1.isSome)
      && decide ((a :: []).length + ([] : List Keyword).length + (if ([] : List Keyword).isEmpty then 0 else 1) < 30)) = true := by rfl)
    (hline : (apos.endLine == cpos.line) = true := by rfl) (hs : starEach (a :: []) X.env = (false, eval a X.env) :: starEach [] X.env := by rfl) (hplain : (backTo cpos (starEach [] X.env)).any (·.1) = false := by rfl)
    (hsw : swapsWith (.Call (.Attribute (.Name x p1) "append" apos) [a] [] cpos) none pos.line X.env = pure false := by rfl) :
    DS X rm (.Expr (.Call (.Attribute (.Name x p1) "append" apos) [a] [] cpos) pos) (sMut fApp i (aCons f aNil)) :=
  ⟨(ps_expr (pe_bm PySem.F.plainAttrs_list PySem.F.slot_list_append PySem.F.type_list_append mt_append (pv i hN hv hd hcd) (a_cons ha a_nil hs).pa hbase hfew hline hs hplain) hsw).imp
    (mut_of (fun G H l ds d vs us p Q e hv rl ra h q => by
      unfold fApp at h
      split at h
      · obtain ⟨hl, rfl⟩ := if_some h
        cases ra with
        | cons r1 t =>
          cases t
          exact ⟨p, vs, _, rfl, rfl, hv, by rw [← rl.len]; exact hl, q _ _ (.lst upd_same (rl.app (.cons r1 .nil)))⟩
      · cases h) (fun m hm => List.mem_singleton.mp hm))⟩
def fExt : List PyData → List PyData → Option PyData := fun l ds => match ds with
  | [.list k] => if l.length + k.length ≤ sizeLine then some (.list (l ++ k)) else none
  | _ => none
def rExtR : V → List V → Hp → VK → Prop := fun x vs H Q => ∃ l b xs zs, x = .ref l ∧ vs = [.ref b] ∧ H l = some (.lst xs) ∧ Rd H b (.lst zs) ∧ xs.length + zs.length ≤ sizeLine ∧ Q .non (upd H l (.lst (xs ++ zs)))
def fIns : List PyData → List PyData → Option PyData := fun l ds => match ds with
  | [.int i, d] => if l.length < sizeLine ∧ 0 ≤ i ∧ i < 2 ^ 63 then some (.list (l.take i.toNat ++ [d] ++ l.drop i.toNat)) else none
  | _ => none
/-- x[i] = v of an own list -/
def fSet : List PyData → List PyData → Option PyData := fun l ds => match ds with
  | [.int k, d] => (ixN l.length k).map fun j => .list (l.set j d)
  | _ => none
/-- the value first, then the index -/
def sPut (i : Nat) (fv fi : SE) : SS := fun ρ => (fv ρ).bind fun d => match ρ[i]? with
  | some (.own (.list l)) => (fi ρ).bind fun k => (fSet l [k, d]).bind fun d' => some (.nx (ρ.set i (.own d')))
  | _ => none
theorem s_put (i : Nat) {tpos : Pos} (he : DX X .val e g) (hi : DX X .val b f) (hN : X.N[i]? = some x := by rfl) (hv : Vis X.env.scope x := by first | exact Or.inl rfl | exact Or.inr (Or.inl rfl) | exact Or.inr (Or.inr rfl)) (hd : (x == ("__debug__" : Str)) = false := by decide)
    (hcd : (x == ("__classdict__" : Str)) = false := by decide)
    (ha : ∀ v, assign (.Subscript (.Name x p1) b tpos) X.env v = (do
      let ov ← holding [v] (eval (.Name x p1) X.env)
      let iv ← holding [v, ov] (eval b X.env)
      standAt tpos
      holding [v, ov, iv] (setItem ov iv v)
      release [v, ov, iv] []) := by intro _; rfl)
    (hs : swapsWithSole [.Subscript (.Name x p1) b tpos] e pos.line X.env = pure false := by rfl) (hw : swappedStores [.Subscript (.Name x p1) b tpos] e X.env = pure none := by rfl)
    (h1 : (assignEach [.Subscript (.Name x p1) b tpos] X.env).map (·.2) = [assign (.Subscript (.Name x p1) b tpos) X.env] := by rfl) : DS X rm (.Assign [.Subscript (.Name x p1) b tpos] e pos) (sPut i g f) :=
  ⟨(ps_asg he.pe (pg_sub (pv i hN hv hd hcd) hi.pe set_list ha) hs hw h1).imp fun D σ H ⟨G0, H0, G, ρ, o, s, e, q⟩ => by
    obtain ⟨d, e1, e⟩ := bind_some e
    split at e
    · rename_i l h
      obtain ⟨k, e2, e⟩ := bind_some e
      obtain ⟨d', e3, e⟩ := bind_some e
      cases e
      refine ⟨G0, H0, G, ρ, d, s, e1, fun G1 H1 v gx r1 => ?_⟩
      have s1 := s.gx' gx
      obtain ⟨p, h1, h2, h3, h4⟩ := s1.own h
      refine ⟨_, h1, G0, H0, G1, ρ, k, s1, e2, fun G2 H2 y gx2 r2 => ?_⟩
      have s2 := s1.gx' gx2
      obtain ⟨p', k1, k2, k3, k4⟩ := s2.own h
      rw [h1] at k1; cases k1
      obtain ⟨vs, hv', rl⟩ := own_list k4
      unfold fSet at e3
      split at e3
      · rename_i kk dd hk
        cases hk
        obtain ⟨j, hj, rfl⟩ := map_some e3
        cases (show Rep X.K G2 (.int kk) y from r2)
        refine ⟨p, vs, kk, j, rfl, rfl, hv', by rw [← rl.len]; exact hj, ?_⟩
        exact q G2 σ _ (gx.g.trans gx2.g) (s2.write h h1 k2 k3 (.lst upd_same (rl.set j (Rep.mono gx2.g r1))))
      · cases e3
    · cases e⟩
end
end DV

namespace DV
open PySem L2
/-! ### how the functions on data reckon -/
section
variable {i j : Int} {ρ : Rho} {f g h : SE} {d : PyData} {r : SA} {k n : Nat}
def getS : Rho → Nat → Option Slot
  | [], _ => none
  | s :: _, 0 => some s
  | _ :: r, k + 1 => getS r k
@[simp] theorem eK_r : eK d ρ = some d := rfl
theorem getS_eq : ∀ (ρ : Rho) (k : Nat), getS ρ k = ρ[k]?
  | [], _ => by simp [getS]
  | s :: _, 0 => rfl
  | s :: r, k + 1 => by
    show getS r k = _
    rw [getS_eq r k]; rfl
@[simp] theorem getS_0 {s : Slot} : getS (s :: ρ) 0 = some s := rfl
@[simp] theorem getS_s {s : Slot} : getS (s :: ρ) (k + 1) = getS ρ k := rfl
@[simp] theorem eV_0 : eV 0 (.val d :: ρ) = some d := rfl
@[simp] theorem eV_s {s : Slot} : eV (k + 1) (s :: ρ) = eV k ρ := rfl
@[simp] theorem eB_0v : eB 0 (.val d :: ρ) = some d := rfl
@[simp] theorem eB_0b : eB 0 (.bor d :: ρ) = some d := rfl
@[simp] theorem eB_0p : eB 0 (.pin d :: ρ) = some d := rfl
@[simp] theorem eB_0o : eB 0 (.own d :: ρ) = some d := rfl
@[simp] theorem eB_s {s : Slot} : eB (k + 1) (s :: ρ) = eB k ρ := rfl
@[simp] theorem eP_0v : eP 0 (.val d :: ρ) = some d := rfl
@[simp] theorem eP_0b : eP 0 (.bor d :: ρ) = some d := rfl
@[simp] theorem eP_s {s : Slot} : eP (k + 1) (s :: ρ) = eP k ρ := rfl
@[simp] theorem eS_0 : eS 0 (.scr d :: ρ) = some d := rfl
@[simp] theorem eS_s {s : Slot} : eS (k + 1) (s :: ρ) = eS k ρ := rfl
@[simp] theorem aNil_r : aNil ρ = some [] := rfl
@[simp] theorem aCons_r : aCons f r ρ = (f ρ).bind fun d => (r ρ).bind fun ds => some (d :: ds) := rfl
@[simp] theorem eOp_r {F : PyData → PyData → Option PyData} : eOp F f g ρ = (f ρ).bind fun x => (g ρ).bind fun y => F x y := rfl
@[simp] theorem eUn_r {F : PyData → Option PyData} : eUn F f ρ = (f ρ).bind F := rfl
@[simp] theorem eCall_r {F : List PyData → Option PyData} : eCall F r ρ = (r ρ).bind F := rfl
@[simp] theorem eTup_r : eTup r ρ = (r ρ).bind fun ds => if ds.length ≤ sizeLine then some (.tuple ds) else none := rfl
@[simp] theorem eLst_r : eLst r ρ = (r ρ).bind fun ds => if ds.length ≤ sizeLine then some (.list ds) else none := rfl
@[simp] theorem eIf_r {t : SB} : eIf t f g ρ = (t ρ).bind fun k => if k = true then f ρ else g ρ := rfl
@[simp] theorem eAnd_r : eAnd f g ρ = (f ρ).bind fun x => (truth x).bind fun k => if k = true then g ρ else some x := rfl
@[simp] theorem eOr_r : eOr f g ρ = (f ρ).bind fun x => (truth x).bind fun k => if k = true then some x else g ρ := rfl
@[simp] theorem eNot_r : eNot f ρ = (f ρ).bind fun x => (truth x).map fun k => .bool !k := rfl
@[simp] theorem eIs_r {T : String} : eIs T f ρ = (f ρ).bind fun d => (isT T d).map .bool := rfl
@[simp] theorem eChain_r {F F' : PyData → PyData → Option PyData} : eChain F F' f g h ρ = (f ρ).bind fun x => (g ρ).bind fun y => (F x y).bind fun z => match z with
  | .bool true => (h ρ).bind fun w => F' y w
  | .bool false => some (.bool false)
  | _ => none := rfl
@[simp] theorem eSl_r {F : PyData → Option Int → Option Int → Option PyData} {a b : SO} : eSl F f a b ρ = (f ρ).bind fun d => (a ρ).bind fun lo => (b ρ).bind fun hi => F d lo hi := rfl
@[simp] theorem oNo_r : oNo ρ = some none := rfl
@[simp] theorem oSo_r : oSo f ρ = (f ρ).bind asI := rfl
@[simp] theorem asI_r : asI (.int i) = some (some i) := rfl
@[simp] theorem bT_r : bT f ρ = (f ρ).bind asB := rfl
@[simp] theorem bV_r : bV f ρ = (f ρ).bind truth := rfl
@[simp] theorem bYes_r : bYes ρ = some true := rfl
@[simp] theorem asB_r {b : Bool} : asB (.bool b) = some b := rfl
@[simp] theorem truth_b {b : Bool} : truth (.bool b) = some b := rfl
@[simp] theorem truth_l {l : List PyData} : truth (.list l) = some (!l.isEmpty) := rfl
@[simp] theorem truth_t {l : List PyData} : truth (.tuple l) = some (!l.isEmpty) := rfl
@[simp] theorem truth_n : truth .none = some false := rfl
@[simp] theorem truth_i : truth (.int i) = some (i != 0) := rfl
variable {t u : SB}
@[simp] theorem bAnd_r : bAnd t u ρ = (t ρ).bind fun k => if k = true then u ρ else some false := rfl
@[simp] theorem bOr_r : bOr t u ρ = (t ρ).bind fun k => if k = true then some true else u ρ := rfl
@[simp] theorem bNot_r : bNot t ρ = (t ρ).map fun k => !k := rfl
@[simp] theorem oAdd_i : oAdd (.int i) (.int j) = some (.int (i + j)) := rfl
@[simp] theorem oSub_i : oSub (.int i) (.int j) = some (.int (i - j)) := rfl
@[simp] theorem oNeg_i : oNeg (.int i) = some (.int (-i)) := rfl
@[simp] theorem oLt_i : oLt (.int i) (.int j) = some (.bool (decide (i < j))) := rfl
@[simp] theorem oLe_i : oLe (.int i) (.int j) = some (.bool (decide (i ≤ j))) := rfl
@[simp] theorem oGt_i : oGt (.int i) (.int j) = some (.bool (decide (j < i))) := rfl
@[simp] theorem oGe_i : oGe (.int i) (.int j) = some (.bool (decide (j ≤ i))) := rfl
@[simp] theorem oMod_i (h : 0 < j) : oMod (.int i) (.int j) = some (.int (i % j)) := if_pos h
@[simp] theorem oFdiv_i (h : 0 < j) (h2 : j < 18446744073709551616) : oFdiv (.int i) (.int j) = some (.int (i / j)) := if_pos ⟨h, h2⟩
theorem oMul_l (h1 : -18446744073709551616 < i) (h2 : i < 18446744073709551616) : oMulS (.int i) (.int j) = some (.int (i * j)) := if_pos (show CMul i j from .inl ⟨h1, h2⟩)
theorem oMul_r (h1 : -18446744073709551616 < j) (h2 : j < 18446744073709551616) : oMulS (.int i) (.int j) = some (.int (i * j)) := if_pos (show CMul i j from .inr ⟨h1, h2⟩)
@[simp] theorem oPow18 : oPow (.int 10) (.int 18) = some (.int 1000000000000000000) := by
  show (if CPow 10 18 then some (PyData.int (10 ^ (18 : Int).toNat)) else none) = _
  rw [if_pos (by decide)]; rfl
@[simp] theorem oPow16 : oPow (.int 10) (.int 16) = some (.int 10000000000000000) := by
  show (if CPow 10 16 then some (PyData.int (10 ^ (16 : Int).toNat)) else none) = _
  rw [if_pos (by decide)]; rfl
@[simp] theorem oPow15 : oPow (.int 10) (.int 15) = some (.int 1000000000000000) := by
  show (if CPow 10 15 then some (PyData.int (10 ^ (15 : Int).toNat)) else none) = _
  rw [if_pos (by decide)]; rfl
@[simp] theorem oPow14 : oPow (.int 10) (.int 14) = some (.int 100000000000000) := by
  show (if CPow 10 14 then some (PyData.int (10 ^ (14 : Int).toNat)) else none) = _
  rw [if_pos (by decide)]; rfl
@[simp] theorem oPow13 : oPow (.int 10) (.int 13) = some (.int 10000000000000) := by
  show (if CPow 10 13 then some (PyData.int (10 ^ (13 : Int).toNat)) else none) = _
  rw [if_pos (by decide)]; rfl
@[simp] theorem oPow12 : oPow (.int 10) (.int 12) = some (.int 1000000000000) := by
  show (if CPow 10 12 then some (PyData.int (10 ^ (12 : Int).toNat)) else none) = _
  rw [if_pos (by decide)]; rfl
@[simp] theorem oPow9 : oPow (.int 10) (.int 9) = some (.int 1000000000) := by
  show (if CPow 10 9 then some (PyData.int (10 ^ (9 : Int).toNat)) else none) = _
  rw [if_pos (by decide)]; rfl
@[simp] theorem oPow8 : oPow (.int 10) (.int 8) = some (.int 100000000) := by
  show (if CPow 10 8 then some (PyData.int (10 ^ (8 : Int).toNat)) else none) = _
  rw [if_pos (by decide)]; rfl
@[simp] theorem oPow7 : oPow (.int 10) (.int 7) = some (.int 10000000) := by
  show (if CPow 10 7 then some (PyData.int (10 ^ (7 : Int).toNat)) else none) = _
  rw [if_pos (by decide)]; rfl
@[simp] theorem oPow6 : oPow (.int 10) (.int 6) = some (.int 1000000) := by
  show (if CPow 10 6 then some (PyData.int (10 ^ (6 : Int).toNat)) else none) = _
  rw [if_pos (by decide)]; rfl
@[simp] theorem cInt_i : cInt [.int i] = some (.int i) := rfl
@[simp] theorem cInt_b {b : Bool} : cInt [.bool b] = some (.int (if b then 1 else 0)) := rfl
@[simp] theorem cAbs_i : cAbs [.int i] = some (.int (if i < 0 then -i else i)) := rfl
@[simp] theorem cMax2_i : cMax2 [.int i, .int j] = some (.int (max i j)) := by
  show some (PyData.int (if j > i then j else i)) = _
  congr 2; split <;> omega
@[simp] theorem cMin2_i : cMin2 [.int i, .int j] = some (.int (min i j)) := by
  show some (PyData.int (if j < i then j else i)) = _
  congr 2; split <;> omega
@[simp] theorem cLen_l {l : List PyData} : cLen [.list l] = some (.int (l.length : Nat)) := rfl
@[simp] theorem cLen_t {l : List PyData} : cLen [.tuple l] = some (.int (l.length : Nat)) := rfl
@[simp] theorem cList_l {l : List PyData} : cList [.list l] = some (.list l) := rfl
@[simp] theorem cList_t {l : List PyData} : cList [.tuple l] = some (.list l) := rfl
@[simp] theorem cSum_i {l : List Int} : cSum [.list (l.map .int)] = some (.int l.sum) := by
  show (intsOf (l.map .int)).map _ = _
  rw [intsOf_map]; rfl
@[simp] theorem isT_int_i : isT "int" (.int i) = some true := rfl
@[simp] theorem isT_bool_i : isT "bool" (.int i) = some false := rfl
@[simp] theorem isT_bool_b {b : Bool} : isT "bool" (.bool b) = some true := rfl
@[simp] theorem isT_int_b {b : Bool} : isT "int" (.bool b) = some true := rfl
@[simp] theorem isT_tuple_t {l : List PyData} : isT "tuple" (.tuple l) = some true := rfl
@[simp] theorem isT_list_l {l : List PyData} : isT "list" (.list l) = some true := rfl
@[simp] theorem oEq_i : oEq (.int i) (.int j) = some (.bool (decide (i = j))) := by
  show (if SeqAt.shaped (.int i) = true ∧ SeqAt.shaped (.int j) = true then some (PyData.bool (PyData.eqv (.int i) (.int j))) else none) = _
  rw [if_pos ⟨rfl, rfl⟩]
  show some (PyData.bool (i == j)) = _
  rw [Bool.beq_eq_decide_eq]
@[simp] theorem oNe_i : oNe (.int i) (.int j) = some (.bool (!decide (i = j))) := by
  show (if SeqAt.shaped (.int i) = true ∧ SeqAt.shaped (.int j) = true then some (PyData.bool (!PyData.eqv (.int i) (.int j))) else none) = _
  rw [if_pos ⟨rfl, rfl⟩]
  show some (PyData.bool (!(i == j))) = _
  rw [Bool.beq_eq_decide_eq]
@[simp] theorem oEq_b {a b : Bool} : oEq (.bool a) (.bool b) = some (.bool (a == b)) := if_pos ⟨rfl, rfl⟩
@[simp] theorem oNe_b {a b : Bool} : oNe (.bool a) (.bool b) = some (.bool (!(a == b))) := if_pos ⟨rfl, rfl⟩
@[simp] theorem oIsN_n : oIsN .none .none = some (.bool true) := rfl
@[simp] theorem oNotN_n : oNotN .none .none = some (.bool false) := rfl
@[simp] theorem oIsN_i : oIsN (.int i) .none = some (.bool false) := rfl
@[simp] theorem oNotN_i : oNotN (.int i) .none = some (.bool true) := rfl
@[simp] theorem oIsB_b {a b : Bool} : oIsB (.bool a) (.bool b) = some (.bool (decide (a = b))) := rfl
@[simp] theorem oNotB_b {a b : Bool} : oNotB (.bool a) (.bool b) = some (.bool (!decide (a = b))) := rfl
/-- an item of data, by a place -/
theorem atI_pos {α : Type} {l : List α} (h0 : 0 ≤ i) : atI l i = l[i.toNat]? := by
  unfold L2.atI ixN
  rw [if_pos h0]
  by_cases h : i < l.length
  · rw [if_pos h]; rfl
  · rw [if_neg h]
    show none = _
    rw [List.getElem?_eq_none (by omega)]
@[simp] theorem oIx_l {l : List PyData} : oIx (.list l) (.int i) = atI l i := rfl
@[simp] theorem oIx_t {l : List PyData} : oIx (.tuple l) (.int i) = atI l i := rfl
@[simp] theorem atI_0 {α : Type} {a : α} {l : List α} : atI (a :: l) 0 = some a := by rw [atI_pos (by decide)]; rfl
@[simp] theorem atI_1 {α : Type} {a b : α} {l : List α} : atI (a :: b :: l) 1 = some b := by rw [atI_pos (by decide)]; rfl
@[simp] theorem atI_2 {α : Type} {a b c : α} {l : List α} : atI (a :: b :: c :: l) 2 = some c := by rw [atI_pos (by decide)]; rfl
@[simp] theorem atI_3 {α : Type} {a b c e : α} {l : List α} : atI (a :: b :: c :: e :: l) 3 = some e := by rw [atI_pos (by decide)]; rfl
theorem atI_lt {α : Type} {l : List α} (h0 : 0 ≤ i) (h1 : i < l.length) : atI l i = some (l[i.toNat]'(by omega)) := by
  rw [atI_pos h0]; exact List.getElem?_eq_getElem (by omega)
theorem atI_ex {α : Type} {l : List α} (h0 : 0 ≤ i) (h1 : i < l.length) : ∃ v, v ∈ l ∧ atI l i = some v := ⟨_, List.getElem_mem _, atI_lt h0 h1⟩
theorem pickI (l : List Int) {i : Int} (h0 : 0 ≤ i) (h1 : i < l.length) : ∃ v, v ∈ l ∧ atI (l.map PyData.int) i = some (.int v) := by
  obtain ⟨v, h2, h3⟩ := atI_ex (l := l.map PyData.int) h0 (by rw [List.length_map]; exact h1)
  obtain ⟨w, h4, rfl⟩ := List.mem_map.mp h2
  exact ⟨w, h4, h3⟩
end
/-! ### statements -/
section
variable {ρ ρ' : Rho} {f g : SS} {e : SE} {t : SB} {k : Nat} {d : PyData} {o : Out}
theorem seq_nx (h : f ρ = some (.nx ρ')) : sSeqn f g ρ = g ρ' := by unfold sSeqn; rw [h]; rfl
@[simp] theorem sSeqn_r : sSeqn f g ρ = (f ρ).bind fun o => match o with | .nx ρ' => g ρ' | o => some o := rfl
@[simp] theorem sNext_r : sNext ρ = some (.nx ρ) := rfl
@[simp] theorem sBrk_r : sBrk ρ = some (.bk ρ) := rfl
@[simp] theorem sCnt_r : sCnt ρ = some (.ct ρ) := rfl
@[simp] theorem sRetN_r : sRetN ρ = some (.rt .none) := rfl
@[simp] theorem sExpr_r : sExpr e ρ = (e ρ).bind fun _ => some (.nx ρ) := rfl
@[simp] theorem sRet_r : sRet e ρ = (e ρ).bind fun d => some (.rt d) := rfl
@[simp] theorem sRetOwn_r : sRetOwn k ρ = (match getS ρ k with | some (.own d) => some (.rt d) | _ => none) := by rw [getS_eq]; rfl
@[simp] theorem sIf_r : sIf t f g ρ = (t ρ).bind fun k => if k = true then f ρ else g ρ := rfl
@[simp] theorem sSet_r : sSet k e ρ = (e ρ).bind fun d => if k < ρ.length then some (.nx (ρ.set k (.val d))) else none := rfl
@[simp] theorem sOwn_r : sOwn k e ρ = (e ρ).bind fun d => if k < ρ.length then some (.nx (ρ.set k (.own d))) else none := rfl
@[simp] theorem sAsg_r {g : SG} : sAsg e g ρ = (e ρ).bind fun d => (g d ρ).bind fun ρ' => some (.nx ρ') := rfl
@[simp] theorem gV_r : gV k d ρ = if k < ρ.length then some (ρ.set k (.val d)) else none := rfl
@[simp] theorem gT_r {n : Nat} {r : SGs} {ds : List PyData} : gT n r (.tuple ds) ρ = if ds.length = n then r ds ρ else none := rfl
@[simp] theorem gsNil_r : gsNil [] ρ = some ρ := rfl
@[simp] theorem gsCons_r {g : SG} {r : SGs} {ds : List PyData} : gsCons g r (d :: ds) ρ = (g d ρ).bind fun ρ' => r ds ρ' := rfl
@[simp] theorem sFz_r : sFz k f ρ = (match getS ρ k with | some (.own d) => f (ρ.set k (.val d)) | some (.val _) => f ρ | _ => none) := by rw [getS_eq]; rfl
@[simp] theorem sAug_r {F : PyData → PyData → Option PyData} : sAug k F e ρ = (eV k ρ).bind fun x => (e ρ).bind fun y => (F x y).bind fun d => some (.nx (ρ.set k (.val d))) := rfl
@[simp] theorem addI_r {i j : Int} : addI (.int i) (.int j) = some (.int (i + j)) := rfl
@[simp] theorem subI_r {i j : Int} : subI (.int i) (.int j) = some (.int (i - j)) := rfl
@[simp] theorem sFor_r {fi : SI} {g : SG} {b : SS} : sFor fi g b ρ = (fi ρ).bind fun ds => forGo g b ds ρ := rfl
@[simp] theorem sSeq_r : sSeq e ρ = (e ρ).bind itemsOf := rfl
@[simp] theorem sArgs_r {F : List PyData → Option (List PyData)} {r : SA} : sArgs F r ρ = (r ρ).bind F := rfl
@[simp] theorem itemsOf_l {l : List PyData} : itemsOf (.list l) = some l := rfl
@[simp] theorem itemsOf_t {l : List PyData} : itemsOf (.tuple l) = some l := rfl
@[simp] theorem sMut_r {F : List PyData → List PyData → Option PyData} {r : SA} : sMut F k r ρ = (match getS ρ k with | some (.own (.list l)) => (r ρ).bind fun ds => (F l ds).bind fun d => some (.nx (ρ.set k (.own d))) | _ => none) := by rw [getS_eq]; rfl
@[simp] theorem fApp_r {l : List PyData} : fApp l [d] = if l.length < sizeLine then some (.list (l ++ [d])) else none := rfl
@[simp] theorem slotsOf_nil : slotsOf [] [] = [] := rfl
@[simp] theorem slotsOf_val {ms : List Md} {ds : List PyData} : slotsOf (.val :: ms) (d :: ds) = .val d :: slotsOf ms ds := rfl
@[simp] theorem slotsOf_bor {ms : List Md} {ds : List PyData} : slotsOf (.bor :: ms) (d :: ds) = .bor d :: slotsOf ms ds := rfl
@[simp] theorem slotsOf_scr {ms : List Md} {ds : List PyData} : slotsOf (.scr :: ms) (d :: ds) = .scr d :: slotsOf ms ds := rfl
/-- a def's value: from how its body ends -/
theorem runF_rt {n : Nat} {rm : Md} {ms : List Md} {ds : List PyData} (hl : ds.length = ms.length) (h : f (slotsOf ms ds ++ List.replicate (n - ds.length) .un) = some (.rt d)) : runF n rm ms f ds = some d := by
  unfold runF
  rw [if_pos hl, h]
  cases rm <;> rfl
theorem size_le {n : Nat} (h : n ≤ 16777216) : n ≤ sizeLine := by rw [sizeLine_eq]; exact h
/-! ### loops -/
/-- a loop that runs to its end: an invariant by the turn -/
theorem for_all {g : SG} {b : SS} {ds : List PyData} (I : Nat → Rho → Prop) (h0 : I 0 ρ)
    (turn : ∀ i d ρ, ds[i]? = some d → I i ρ → ∃ ρ1 ρ', g d ρ = some ρ1 ∧ (b ρ1 = some (.nx ρ') ∨ b ρ1 = some (.ct ρ')) ∧ I (i + 1) ρ') : ∃ ρ', forGo g b ds ρ = some (.nx ρ') ∧ I ds.length ρ' := by
  have key : ∀ (rest : List PyData) (i : Nat) (ρ : Rho), i ≤ ds.length → ds.drop i = rest → I i ρ → ∃ ρ', forGo g b rest ρ = some (.nx ρ') ∧ I ds.length ρ' := by
    intro rest
    induction rest with
    | nil =>
      intro i ρ hle hd hi
      have : ds.length ≤ i := List.drop_eq_nil_iff.mp hd
      have e : i = ds.length := by omega
      exact ⟨ρ, rfl, by rw [← e]; exact hi⟩
    | cons d r ih =>
      intro i ρ hle hd hi
      have hlt : i < ds.length := by
        have := congrArg List.length hd
        rw [List.length_drop, List.length_cons] at this
        omega
      have h1 : ds[i]? = some d := by
        rw [← List.head?_drop, hd]; rfl
      obtain ⟨ρ1, ρ', e1, e2, e3⟩ := turn i d ρ h1 hi
      have h2 : ds.drop (i + 1) = r := by rw [← List.tail_drop, hd]; rfl
      obtain ⟨ρ2, e4, e5⟩ := ih (i + 1) ρ' hlt h2 e3
      refine ⟨ρ2, ?_, e5⟩
      unfold forGo
      rw [e1]
      rcases e2 with e2 | e2
      · show (b ρ1).bind _ = _
        rw [e2]; exact e4
      · show (b ρ1).bind _ = _
        rw [e2]; exact e4
  exact key ds 0 ρ (Nat.zero_le _) rfl h0
end
/-! ### == of plain data (no bools, no dicts) -/
mutual
def clean : Nat → PyData → Bool
  | _, .none => true
  | _, .int _ => true
  | _, .str x => PyData.strOk x
  | n + 1, .list l => cleanA n l
  | n + 1, .tuple l => cleanA n l
  | _, _ => false
def cleanA : Nat → List PyData → Bool
  | _, [] => true
  | n, d :: r => clean n d && cleanA n r
end
mutual
theorem clean_lay : ∀ (n : Nat) (d : PyData), clean n d = true → d.canLay0 = true ∧ d.depth ≤ n
  | _, .none, _ => ⟨by simp [PyData.canLay0], by simp [PyData.depth]⟩
  | _, .int _, _ => ⟨by simp [PyData.canLay0], by simp [PyData.depth]⟩
  | _, .bool _, h => by simp [clean] at h
  | _, .str x, h => ⟨by simpa [PyData.canLay0, clean] using h, by simp [PyData.depth]⟩
  | 0, .list l, h => by simp [clean] at h
  | 0, .tuple l, h => by simp [clean] at h
  | n + 1, .list l, h => by
    obtain ⟨h1, h2⟩ := cleanA_lay n l (by simpa [clean] using h)
    exact ⟨by simpa [PyData.canLay0] using h1, by simpa [PyData.depth] using h2⟩
  | n + 1, .tuple l, h => by
    obtain ⟨h1, h2⟩ := cleanA_lay n l (by simpa [clean] using h)
    exact ⟨by simpa [PyData.canLay0] using h1, by simpa [PyData.depth] using h2⟩
  | _, .dict _, h => by simp [clean] at h
theorem cleanA_lay : ∀ (n : Nat) (l : List PyData), cleanA n l = true → PyData.canLayAll0 l = true ∧ PyData.depthAll l ≤ n
  | _, [], _ => ⟨by simp [PyData.canLayAll0], by simp [PyData.depthAll]⟩
  | n, d :: r, h => by
    have h' : clean n d = true ∧ cleanA n r = true := by simpa [cleanA] using h
    obtain ⟨a1, a2⟩ := clean_lay n d h'.1
    obtain ⟨b1, b2⟩ := cleanA_lay n r h'.2
    exact ⟨by simp [PyData.canLayAll0, a1, b1], by simp only [PyData.depthAll]; omega⟩
end
mutual
theorem eqv_iff : ∀ (n : Nat) (d e : PyData), clean n d = true → clean n e = true → (PyData.eqv d e = true ↔ d = e)
  | _, .none, .none, _, _ => by simp [PyData.eqv]
  | _, .none, .int _, _, _ => by simp [PyData.eqv]
  | _, .none, .str _, _, _ => by simp [PyData.eqv]
  | _, .none, .list _, _, _ => by simp [PyData.eqv]
  | _, .none, .tuple _, _, _ => by simp [PyData.eqv]
  | _, .int _, .none, _, _ => by simp [PyData.eqv]
  | _, .int _, .int _, _, _ => by simp [PyData.eqv]
  | _, .int _, .str _, _, _ => by simp [PyData.eqv]
  | _, .int _, .list _, _, _ => by simp [PyData.eqv]
  | _, .int _, .tuple _, _, _ => by simp [PyData.eqv]
  | _, .str _, .none, _, _ => by simp [PyData.eqv]
  | _, .str _, .int _, _, _ => by simp [PyData.eqv]
  | _, .str _, .str _, _, _ => by simp [PyData.eqv]
  | _, .str _, .list _, _, _ => by simp [PyData.eqv]
  | _, .str _, .tuple _, _, _ => by simp [PyData.eqv]
  | _, .list _, .none, _, _ => by simp [PyData.eqv]
  | _, .list _, .int _, _, _ => by simp [PyData.eqv]
  | _, .list _, .str _, _, _ => by simp [PyData.eqv]
  | 0, .list _, .list _, h, _ => by simp [clean] at h
  | n + 1, .list l, .list k, h, h2 => by
    have := eqvA_iff n l k (by simpa [clean] using h) (by simpa [clean] using h2)
    simp only [PyData.eqv, this, PyData.list.injEq]
  | _, .list _, .tuple _, _, _ => by simp [PyData.eqv]
  | _, .tuple _, .none, _, _ => by simp [PyData.eqv]
  | _, .tuple _, .int _, _, _ => by simp [PyData.eqv]
  | _, .tuple _, .str _, _, _ => by simp [PyData.eqv]
  | _, .tuple _, .list _, _, _ => by simp [PyData.eqv]
  | 0, .tuple _, .tuple _, h, _ => by simp [clean] at h
  | n + 1, .tuple l, .tuple k, h, h2 => by
    have := eqvA_iff n l k (by simpa [clean] using h) (by simpa [clean] using h2)
    simp only [PyData.eqv, this, PyData.tuple.injEq]
  | _, .bool _, _, h, _ => by simp [clean] at h
  | _, .dict _, _, h, _ => by simp [clean] at h
  | _, _, .bool _, _, h => by simp [clean] at h
  | _, _, .dict _, _, h => by simp [clean] at h
theorem eqvA_iff : ∀ (n : Nat) (l k : List PyData), cleanA n l = true → cleanA n k = true → (PyData.eqvAll l k = true ↔ l = k)
  | _, [], [], _, _ => by simp [PyData.eqvAll]
  | _, [], _ :: _, _, _ => by simp [PyData.eqvAll]
  | _, _ :: _, [], _, _ => by simp [PyData.eqvAll]
  | n, d :: l, e :: k, h, h2 => by
    have h' : clean n d = true ∧ cleanA n l = true := by simpa [cleanA] using h
    have h2' : clean n e = true ∧ cleanA n k = true := by simpa [cleanA] using h2
    have a := eqv_iff n d e h'.1 h2'.1
    have b := eqvA_iff n l k h'.2 h2'.2
    simp only [PyData.eqvAll, Bool.and_eq_true, a, b, List.cons.injEq]
end
theorem clean_shaped {n : Nat} {d : PyData} (hn : n ≤ 64) (h : clean n d = true) : SeqAt.shaped d = true := by
  obtain ⟨h1, h2⟩ := clean_lay n d h
  unfold SeqAt.shaped
  rw [h1, Bool.true_and]
  exact decide_eq_true (by omega)
theorem oEq_c {d e : PyData} (h1 : clean 9 d = true) (h2 : clean 9 e = true) : oEq d e = some (.bool (PyData.eqv d e)) := if_pos ⟨clean_shaped (by decide) h1, clean_shaped (by decide) h2⟩
theorem oNe_c {d e : PyData} (h1 : clean 9 d = true) (h2 : clean 9 e = true) : oNe d e = some (.bool (!PyData.eqv d e)) := if_pos ⟨clean_shaped (by decide) h1, clean_shaped (by decide) h2⟩
theorem oEq_self {d : PyData} (h1 : clean 9 d = true) : oEq d d = some (.bool true) := by rw [oEq_c h1 h1, (eqv_iff 9 d d h1 h1).mpr rfl]
theorem oNe_self {d : PyData} (h1 : clean 9 d = true) : oNe d d = some (.bool false) := by rw [oNe_c h1 h1, (eqv_iff 9 d d h1 h1).mpr rfl]; rfl
theorem eqv_dec {d e : PyData} (h1 : clean 9 d = true) (h2 : clean 9 e = true) (c : Prop) [Decidable c] (h : d = e ↔ c) : PyData.eqv d e = decide c := by
  have := eqv_iff 9 d e h1 h2
  by_cases q : c
  · rw [decide_eq_true q]; exact this.mpr (h.mpr q)
  · rw [decide_eq_false q]
    cases z : PyData.eqv d e with
    | false => rfl
    | true => exact absurd (h.mp (this.mp z)) q
/-- a rectangle -/
abbrev rD (x y w h : Int) : PyData := .tuple [.int x, .int y, .int w, .int h]
/-! ### comprehensions over encoded lists -/
section
variable {ρ : Rho} {g : SG} {t : SB} {e : SE} {α : Type}
@[simp] theorem eLc_r {fi : SI} {vs : List Nat} : eLc fi g t e vs ρ = (fi ρ).bind fun ds => (lcGo g t e (wipeR ρ vs) ds).bind fun ys => if ys.length ≤ sizeLine then some (.list ys) else none := rfl
@[simp] theorem wipeR_nil : wipeR ρ [] = ρ := rfl
@[simp] theorem wipeR_cons {v : Nat} {vs : List Nat} : wipeR ρ (v :: vs) = (wipeR ρ vs).set v .un := rfl
theorem lcGo_filter (enc f : α → PyData) (p : α → Bool) : ∀ (xs : List α), (∀ a ∈ xs, ∃ ρ1, g (enc a) ρ = some ρ1 ∧ t ρ1 = some (p a) ∧ (p a = true → e ρ1 = some (f a))) → lcGo g t e ρ (xs.map enc) = some ((xs.filter p).map f)
  | [], _ => rfl
  | a :: r, h => by
    obtain ⟨ρ1, h1, h2, h3⟩ := h a List.mem_cons_self
    have ih := lcGo_filter enc f p r fun b hb => h b (List.mem_cons_of_mem _ hb)
    show (g (enc a) ρ).bind _ = _
    rw [h1]
    show (t ρ1).bind _ = _
    rw [h2]
    cases hp : p a with
    | true =>
      show (e ρ1).bind _ = _
      rw [h3 hp]
      show (lcGo g t e ρ (r.map enc)).bind _ = _
      rw [ih, List.filter_cons_of_pos hp]; rfl
    | false =>
      show lcGo g t e ρ (r.map enc) = _
      rw [ih, List.filter_cons_of_neg (by rw [hp]; exact Bool.false_ne_true)]
theorem lcGo_map (enc f : α → PyData) (xs : List α) (h : ∀ a ∈ xs, ∃ ρ1, g (enc a) ρ = some ρ1 ∧ t ρ1 = some true ∧ e ρ1 = some (f a)) : lcGo g t e ρ (xs.map enc) = some (xs.map f) := by
  have := lcGo_filter (ρ := ρ) (g := g) (t := t) (e := e) enc f (fun _ => true) xs fun a ha => by
    obtain ⟨ρ1, h1, h2, h3⟩ := h a ha
    exact ⟨ρ1, h1, h2, fun _ => h3⟩
  rw [this]
  congr 2
  exact List.filter_eq_self.mpr fun _ _ => rfl
/-- a part of a list -/
def cutG (xs : List α) (lo hi : Option Int) : List α := (xs.drop (HT.sIx xs.length 0 lo)).take (HT.sIx xs.length xs.length hi - HT.sIx xs.length 0 lo)
theorem cutG_len (xs : List α) {i j : Int} (h0 : 0 ≤ i) (h1 : i ≤ j) : (cutG xs (some i) (some j)).length ≤ (j - i).toNat := by
  unfold cutG
  obtain ⟨a, rfl⟩ := Int.eq_ofNat_of_zero_le h0
  obtain ⟨b, rfl⟩ := Int.eq_ofNat_of_zero_le (Int.le_trans h0 h1)
  rw [HT.sIx_nat, HT.sIx_nat, List.length_take, List.length_drop]
  omega
@[simp] theorem oSlL_l {l : List PyData} {lo hi : Option Int} : oSlL (.list l) lo hi = some (.list (cutD l lo hi)) := rfl
@[simp] theorem oSl_l {l : List PyData} {lo hi : Option Int} : oSl (.list l) lo hi = some (.list (cutD l lo hi)) := rfl
@[simp] theorem rng1_r {j : Int} (h1 : -4611686018427387904 ≤ j) (h2 : j < 4611686018427387904) : rng1 [.int j] = some (rangeD 0 j.toNat) := if_pos ⟨by omega, by omega⟩
@[simp] theorem rng2_r {i j : Int} (h1 : -4611686018427387904 ≤ i) (h2 : i < 4611686018427387904) (h3 : -4611686018427387904 ≤ j) (h4 : j < 4611686018427387904) : rng2 [.int i, .int j] = some (rangeD i (j - i).toNat) := if_pos ⟨by omega, by omega, by omega, by omega⟩
theorem rangeD_map (lo : Int) (n : Nat) : rangeD lo n = ((List.range n).map fun i : Nat => lo + (i : Int)).map .int := by
  unfold rangeD; rw [List.map_map]; rfl
end
/-- rectangles, encoded -/
abbrev R4 := Int × Int × Int × Int
def encR (r : R4) : PyData := rD r.1 r.2.1 r.2.2.1 r.2.2.2
theorem cleanA_map {α : Type} {n : Nat} {f : α → PyData} (h : ∀ a, clean n (f a) = true) (l : List α) : cleanA n (l.map f) = true := by
  induction l with
  | nil => simp [cleanA]
  | cons a r ih => simp [cleanA, h, ih]
theorem map_inj {α : Type} {f : α → PyData} (h : ∀ {a b}, f a = f b → a = b) : ∀ {l k : List α}, l.map f = k.map f → l = k
  | [], [], _ => rfl
  | [], _ :: _, e => by simp at e
  | _ :: _, [], e => by simp at e
  | a :: l, b :: k, e => by
    simp only [List.map_cons, List.cons.injEq] at e
    rw [h e.1, map_inj h e.2]
end DV

namespace DV
open PySem L2 PySem.Spec PyProof.Rows
section
variable {X : Cx} {K : PySem.W.Frag} {a b e : Expr} {f g fe : SE} {rm : Md} {x : Str} {pos p1 apos cpos : Pos}
/-! ### in -/
theorem op_inA (hu : X.A.units + 65 < cLine) : OpR X (compareOp .In) (fun x y H Q => (∃ (c : Nat) (z : Str), x = .str ⟨#[c]⟩ ∧ y = .str z ∧ Q (.bl (decide (c ∈ z.cps.toList))) H) ∨ rInD X.K x y H Q) := OpR.or op_in_sign (op_inD hu)
theorem units65 {k : Nat} {A : Around} (r : Room k A) : A.units + 65 < cLine := by have := r.un; omega
def oIn (a b : PyData) : Option PyData := match b with
  | .list ds => if SeqAt.shaped a = true ∧ SeqAt.shaped (.list ds) = true then some (.bool (ds.any fun z => PyData.eqv z a)) else none
  | b => oInS a b
def oNotIn (a b : PyData) : Option PyData := match b with
  | .list ds => if SeqAt.shaped a = true ∧ SeqAt.shaped (.list ds) = true then some (.bool (!ds.any fun z => PyData.eqv z a)) else none
  | b => oNotInS a b
theorem opf_in {X : Cx} : OpF X.K .val (fun x y H Q => (∃ (c : Nat) (z : Str), x = .str ⟨#[c]⟩ ∧ y = .str z ∧ Q (.bl (decide (c ∈ z.cps.toList))) H) ∨ rInD X.K x y H Q) oIn := fun G H d1 d2 d x y Q e r1 r2 h q => by
  unfold oIn at h
  split at h
  · obtain ⟨⟨c1, c2⟩, rfl⟩ := if_some h
    exact .inr ⟨d1, _, r1.dp e (SeqAt.canLay_of_shaped c1), r2.dp e (SeqAt.canLay_of_shaped c2), c1, c2, q G H _ (Gx.refl e) fun _ => .bl _⟩
  · exact .inl (opf_inS G H d1 d2 d x y Q e r1 r2 h q)
/-! ### x[i] += v of an own list -/
def rGetL : V → V → Hp → VK → Prop := fun o i H Q => ∃ p xs k v, o = .ref p ∧ i = .int k ∧ H p = some (.lst xs) ∧ atI xs k = some v ∧ Q v H
def sPutOp (i : Nat) (F : Int → Int → Int) (fi fv : SE) : SS := fun ρ => match ρ[i]? with
  | some (.own (.list l)) => (fi ρ).bind fun k => match k with
    | .int k => (atI l k).bind fun x => match x with
      | .int x => (fv ρ).bind fun y => match y with
        | .int y => (ixN l.length k).map fun j => .nx (ρ.set i (.own (.list (l.set j (.int (F x y))))))
        | _ => none
      | _ => none
    | _ => none
  | _ => none
end
@[simp] theorem sPutOp_r {F : Int → Int → Int} {f g : SE} {k : Nat} {ρ : Rho} : sPutOp k F f g ρ = (match getS ρ k with
  | some (.own (.list l)) => (f ρ).bind fun k' => match k' with
    | .int k' => (atI l k').bind fun x => match x with
      | .int x => (g ρ).bind fun y => match y with
        | .int y => (ixN l.length k').map fun j => .nx (ρ.set k (.own (.list (l.set j (.int (F x y))))))
        | _ => none
      | _ => none
    | _ => none
  | _ => none) := by rw [getS_eq]; rfl
/-! ### lists of ints -/
theorem clean_is (l : List Int) : clean 9 (.list (l.map .int)) = true := by
  show cleanA 8 _ = true
  exact cleanA_map (fun a => rfl) l
/-! ### a function on data that nothing unfolds -/
theorem box_ex {α : Type} (a : α) : ∃ b, b = a := ⟨a, rfl⟩
noncomputable def box {α : Type} (a : α) : α := Classical.choose (box_ex a)
theorem box_eq {α : Type} (a : α) : box a = a := Classical.choose_spec (box_ex a)
theorem box_rt {n : Nat} {rm : Md} {ms : List Md} {b : SS} {ds : List PyData} {d : PyData} (h1 : ds.length = ms.length) (h2 : b (slotsOf ms ds ++ List.replicate (n - ds.length) .un) = some (.rt d)) : box (runF n rm ms b) ds = some d := by
  rw [box_eq]; exact runF_rt h1 h2
theorem fn_okB {P : Program} {w : World} {K : PySem.W.Frag} {mg : Str → Option Value} {base : Heap} {x qual : Str} {st : Stmt} {f : Addr} {fd : FuncData} {N ps : List Str} {k n : Nat} {ms : List Md} {rm : Md} {b : SS} (F : Fun K x qual st f fd) (S : FnScope N ps (defScope st))
    (hm : ms.length = ps.length) (hn : N.length = n) (am : ArgMd ms)
    (body : ∀ (cdv : Value) (A : Around) (outer : List Env) (s : Shared) (H : Hp) (E : XK), Room k (A.deeper (PyProof.Rows.envOfC qual (defScope st) s.heap.objs.size f cdv)) → DB (cxOf CX0 P w K mg base N qual (defScope st) f cdv A outer s H E).nox rm (defBody st) b) :
    FnOk P w K mg base CX0 (k + 1) f fd ps (spD K rm ms (box (runF n rm ms b))) := by
  rw [box_eq]; exact fn_ok F S hm hn am body
end DV

namespace DV
open PySem L2 PySem.Spec PyProof.Rows
/-! ### a loop over an own list: the list is lent to the loop -/
def Fr.lend (F : Fr) (i : Nat) (a : Addr) (vs : List V) : Fr := ⟨F.g, F.b, fun j => if j = i then some (a, vs) else F.pin j, F.sts⟩
section
variable {K : PySem.W.Frag} {F : Fr} {H0 G H G' H' : Hp} {ρ ρ' : Rho} {σ σ' : L2.St} {ds : List PyData} {vs : List V} {i : Nat} {a : Addr}
theorem Sok.lend (s : Sok K F H0 G ρ σ H) (h : ρ[i]? = some (.own (.list ds))) (ha : σ[i]? = some (some (.ref a))) (hn : H0 a = none) (hg : G a = none) (hv : H a = some (.lst vs)) (rl : RepA K G ds vs) :
    Sok K (F.lend i a vs) (upd H0 a (.lst vs)) G (ρ.set i (.pin (.list ds))) σ H := by
  have hi : i < ρ.length := (List.getElem?_eq_some_iff.mp h).1
  have own_of : ∀ {j : Nat} {e : PyData}, (ρ.set i (.pin (.list ds)))[j]? = some (.own e) → ρ[j]? = some (.own e) := fun {j e} q => by
    by_cases z : j = i
    · subst z; rw [List.getElem?_set_self hi] at q; cases q
    · rw [List.getElem?_set_ne (Ne.symm z)] at q; exact q
  refine ⟨⟨s.gx.g, fun b w hw => ?_, s.gx.gh, fun b hb => ?_⟩, by rw [List.length_set]; exact s.len, fun j q hj => ?_, fun j k d1 e b hjk h1 h2 h3 h4 => s.apart j k _ _ b hjk (own_of h1) (own_of h2) h3 h4, fun j d hj => ?_, s.base.trans (Ex.new hn), fun j b us hj => ?_⟩
  · by_cases z : b = a
    · subst z; rw [upd_same] at hw; rw [hv]; exact hw
    · rw [upd_ne z] at hw; exact s.gx.h b w hw
  · by_cases z : b = a
    · subst z; exact absurd hg hb
    · rw [upd_ne z]; exact s.gx.nw b hb
  · by_cases z : j = i
    · subst z
      rw [List.getElem?_set_self hi] at hj
      cases hj
      exact .pin
    · rw [List.getElem?_set_ne (Ne.symm z)] at hj
      have q2 := s.slot j q hj
      generalize e : σ[j]?.getD none = w at q2
      cases q2 with
      | un => exact .un
      | val h => exact .val h
      | bor h => exact .bor h
      | scr h => exact .scr h
      | pin => exact .pin
      | st h => exact .st h
      | own k1 k2 k3 =>
        refine .own ?_ k2 k3
        rw [upd_ne]
        · exact k1
        · rintro rfl
          exact s.apart i j _ _ _ (fun z' => z z'.symm) h hj ha (getD_some e)
  · by_cases z : j = i
    · subst z
      rw [List.getElem?_set_self hi] at hj
      cases hj
      exact ⟨a, vs, ds, if_pos rfl, ha, rfl, rl⟩
    · rw [List.getElem?_set_ne (Ne.symm z)] at hj
      obtain ⟨b, us, es, p1, p2⟩ := s.pins j d hj
      exact ⟨b, us, es, (if_neg z).trans p1, p2⟩
  · by_cases z : j = i
    · subst z
      have : (some (a, vs) : Option (Addr × List V)) = some (b, us) := (if_pos rfl).symm.trans hj
      cases this
      exact upd_same
    · have hj' : F.pin j = some (b, us) := (if_neg z).symm.trans hj
      have hb := s.wf j b us hj'
      rw [upd_ne]
      · exact hb
      · rintro rfl
        rw [hn] at hb; cases hb
theorem Sok.back (s : Sok K F H0 G ρ σ H) (hn : H0 a = none) (hg : G a = none) (rl : RepA K G ds vs) (eg : Ex G G') {d : PyData} (s' : Sok K (F.lend i a vs) (upd H0 a (.lst vs)) G' ρ' σ' H') (h : ρ'[i]? = some (.pin d)) :
    Sok K F H0 G' (ρ'.set i (.own (.list ds))) σ' H' := by
  have hi : i < ρ'.length := (List.getElem?_eq_some_iff.mp h).1
  have hg0 : F.g a = none := s.gx.g.back hg
  have ha : σ'[i]? = some (some (.ref a)) := by
    obtain ⟨b, us, es, p1, p2, _⟩ := s'.pins i d h
    have : (some (a, vs) : Option (Addr × List V)) = some (b, us) := (if_pos rfl).symm.trans p1
    cases this
    exact p2
  have hg' : G' a = none := by
    cases e : G' a with
    | none => rfl
    | some w =>
      rcases s'.gx.nw a (by rw [e]; simp) with z | z
      · exact absurd hg0 z
      · rw [upd_same] at z; exact (show False from z).elim
  have hv : H' a = some (.lst vs) := s'.gx.h a _ upd_same
  refine ⟨⟨s'.gx.g, (Ex.new hn).trans s'.gx.h, s'.gx.gh, fun b hb => ?_⟩, by rw [List.length_set]; exact s'.len, fun j q hj => ?_, fun j k d1 e b hjk h1 h2 h3 h4 => ?_, fun j d' hj => ?_, s.base, s.wf⟩
  · rcases s'.gx.nw b hb with z | z
    · exact .inl z
    · by_cases y : b = a
      · subst y; rw [upd_same] at z; cases z
      · rw [upd_ne y] at z; exact .inr z
  · by_cases z : j = i
    · subst z
      rw [List.getElem?_set_self hi] at hj
      cases hj
      rw [ha]
      exact .own hn hg' (.lst hv (rl.mono eg))
    · rw [List.getElem?_set_ne (Ne.symm z)] at hj
      have q2 := s'.slot j q hj
      generalize e : σ'[j]?.getD none = w at q2
      cases q2 with
      | un => exact .un
      | val h => exact .val h
      | bor h => exact .bor h
      | scr h => exact .scr h
      | pin => exact .pin
      | st h => exact .st h
      | @own d2 c k1 k2 k3 =>
        refine .own ?_ k2 k3
        by_cases y : c = a
        · subst y; rw [upd_same] at k1; cases k1
        · rw [upd_ne y] at k1; exact k1
  · have nota : ∀ {j : Nat} {e : PyData} {b : Addr}, ρ'[j]? = some (.own e) → σ'[j]? = some (some (.ref b)) → b ≠ a := fun {j e b} q q2 => by
      obtain ⟨c, k1, k2, _⟩ := s'.own q
      rw [q2] at k1; cases k1
      rintro rfl
      rw [upd_same] at k2; cases k2
    by_cases z : j = i
    · subst z
      rw [ha] at h3; cases h3
      rw [List.getElem?_set_ne hjk] at h2
      exact nota h2 h4 rfl
    · rw [List.getElem?_set_ne (Ne.symm z)] at h1
      by_cases y : k = i
      · subst y
        rw [ha] at h4; cases h4
        exact nota h1 h3 rfl
      · rw [List.getElem?_set_ne (Ne.symm y)] at h2
        exact s'.apart j k _ _ b hjk h1 h2 h3 h4
  · by_cases z : j = i
    · subst z
      rw [List.getElem?_set_self hi] at hj; cases hj
    · rw [List.getElem?_set_ne (Ne.symm z)] at hj
      obtain ⟨b, us, es, p1, p2⟩ := s'.pins j d' hj
      exact ⟨b, us, es, (if_neg z).symm.trans p1, p2⟩
end
def sForOwn (i : Nat) (g : SG) (b : SS) : SS := fun ρ => match ρ[i]? with
  | some (.own (.list ds)) => (forGo g b ds (ρ.set i (.pin (.list ds)))).bind fun o => match o with
    | .nx ρ' => match ρ'[i]? with
      | some (.pin _) => some (.nx (ρ'.set i (.own (.list ds))))
      | _ => none
    | .rt d => some (.rt d)
    | _ => none
  | _ => none
section
variable {X : Cx} {rm : Md} {tg : Expr} {body : List Stmt} {g : SG} {f : SS} {x : Str} {p1 pos : Pos}
end
@[simp] theorem sForOwn_r {g : SG} {b : SS} {k : Nat} {ρ : Rho} : sForOwn k g b ρ = (match getS ρ k with
  | some (.own (.list ds)) => (forGo g b ds (ρ.set k (.pin (.list ds)))).bind fun o => match o with
    | .nx ρ' => match getS ρ' k with
      | some (.pin _) => some (.nx (ρ'.set k (.own (.list ds))))
      | _ => none
    | .rt d => some (.rt d)
    | _ => none
  | _ => none) := by
  rw [getS_eq]; unfold sForOwn
  cases ρ[k]? with
  | none => rfl
  | some s => cases s with
    | own d => cases d with
      | list ds =>
        simp only []
        congr 1; funext o
        cases o with
        | nx ρ' => simp only [getS_eq]
        | _ => rfl
      | _ => rfl
    | _ => rfl
end DV

namespace DV
open PySem L2 PySem.Spec PyProof.Rows
section
variable {X : Cx} {m : Md} {a b : Expr} {f g : SE} {pos apos : Pos} {name : Str} {id : String}
/-! ### methods of texts with one argument -/
def MtF (K : PySem.W.Frag) (m : Md) (r : V → List V → Hp → VK → Prop) (F : PyData → PyData → Option PyData) : Prop :=
  ∀ (G H : Hp) (d1 d2 d : PyData) (x y : V) (Q : VK), Ex G H → RepB K G H d1 x → RepB K G H d2 y → F d1 d2 = some d → (∀ G' H' v, Gx G H G' H' → (∀ H0, RM K H0 H m G' H' d v) → Q v H') → r x [y] H Q
theorem d_m1 {r : V → List V → Hp → VK → Prop} {F : PyData → PyData → Option PyData} (slot : PySem.Slot "str" name id) (ty : typeOf (.builtin id) = pure (.type "method_descriptor")) (rule : MtR X id r) (hF : MtF X.K m r F) (hS : ∀ d1 d2 d, F d1 d2 = some d → ∃ z, d1 = .str z)
    (ha : DX X .bor a f) (hb : DX X .bor b g) (hs : starEach [b] X.env = [(false, eval b X.env)] := by rfl) (hbase : attributeBase a name X.env (eval a X.env) = eval a X.env := by rfl) (hline : (apos.endLine == pos.line) = true := by rfl) :
    DX X m (.Call (.Attribute a name apos) [b] [] pos) (eOp F f g) :=
  ⟨(pe_m1 slot ty rule ha.pe hb.pe hs hbase hline).imp fun σ H Q ⟨G0, H0, G, ρ, d, s, ed, q⟩ => by
    obtain ⟨d1, e1, ed⟩ := bind_some ed
    obtain ⟨d2, e2, ed⟩ := bind_some ed
    refine ⟨G0, H0, G, ρ, d1, s, e1, fun G1 H1 x gx1 r1 => ?_⟩
    obtain ⟨z, rfl⟩ := hS _ _ _ ed
    refine ⟨⟨z, RepB.str r1⟩, G0, H0, G1, ρ, d2, s.gx' gx1, e2, fun G2 H2 y gx2 r2 => ?_⟩
    exact hF G2 H2 _ d2 d x y Q gx2.gh (RepB.mono gx2.g gx2.h r1) r2 ed fun G' H' v gx3 r3 => q G' H' v ((gx1.trans gx2).trans gx3) ((r3 H0).start (gx1.trans gx2).h)⟩
def oSplit (a b : PyData) : Option PyData := match a, b with
  | .str x, .str y => if (y.length == 0) = false ∧ x.length + 2 ≤ sizeLine then some (.list ((Txt.split x y).map .str)) else none
  | _, _ => none
theorem strs_A {K : PySem.W.Frag} {G : Hp} : ∀ l : List Str, RepA K G (l.map .str) (l.map V.str)
  | [] => .nil
  | x :: l => .cons (.str x) (strs_A l)
theorem mtf_split {K : PySem.W.Frag} : MtF K .new (fun x xs H Q => ∃ a b, x = .str a ∧ xs = [.str b] ∧ (b.length == 0) = false ∧ a.length + 2 ≤ sizeLine ∧ rNewStrs (Txt.split a b) H Q) oSplit := fun G H d1 d2 d x y Q e r1 r2 h q => by
  unfold oSplit at h
  split at h
  · obtain ⟨⟨c1, c2⟩, rfl⟩ := if_some h
    cases r1.str
    cases r2.str
    refine ⟨_, _, rfl, rfl, c1, c2, fun p hp => q G _ _ (Gx.mine e hp) fun H0 => ⟨p, rfl, hp, e.back hp, .lst upd_same (strs_A _)⟩⟩
  · cases h
theorem s_split {d1 d2 d : PyData} (h : oSplit d1 d2 = some d) : ∃ z, d1 = .str z := by
  unfold oSplit at h
  split at h
  · exact ⟨_, rfl⟩
  · cases h
def oCount (a b : PyData) : Option PyData := match a, b with
  | .str x, .str y => some (.int (Txt.count x y))
  | _, _ => none
theorem d_split (ha : DX X .bor a f) (hb : DX X .bor b g) (hs : starEach [b] X.env = [(false, eval b X.env)] := by rfl) (hbase : attributeBase a "split" X.env (eval a X.env) = eval a X.env := by rfl) (hline : (apos.endLine == pos.line) = true := by rfl) :
    DX X .new (.Call (.Attribute a "split" apos) [b] [] pos) (eOp oSplit f g) := d_m1 F.slot_str_split F.type_str_split mt_split mtf_split (fun _ _ _ => s_split) ha hb hs hbase hline
end
/-! ### x.extend(new list) -/
section
variable {X : Cx} {rm : Md} {a : Expr} {f : SE} {pos p1 cpos apos : Pos} {x : Str}
end
end DV

namespace DV
open PySem L2 PySem.Spec PyProof.Rows
/-! ### methods of texts with more arguments -/
def eBm (F : PyData → List PyData → Option PyData) (f : SE) (r : SA) : SE := fun ρ => (f ρ).bind fun x => (r ρ).bind fun ds => F x ds
@[simp] theorem eBm_r {F : PyData → List PyData → Option PyData} {f : SE} {r : SA} {ρ : Rho} : eBm F f r ρ = (f ρ).bind fun x => (r ρ).bind fun ds => F x ds := rfl
section
variable {X : Cx} {m : Md} {a e : Expr} {es : List Expr} {f : SE} {t : SA} {ms : List Md} {pos apos : Pos} {name : Str} {id : String}
def MtF2 (K : PySem.W.Frag) (m : Md) (ms : List Md) (r : V → List V → Hp → VK → Prop) (F : PyData → List PyData → Option PyData) : Prop :=
  ∀ (G H0 Hs H : Hp) (d1 d : PyData) (ds : List PyData) (x : V) (xs : List V) (Q : VK), Ex G H → RepB K G H d1 x → RMs K H0 Hs G H ms ds xs → F d1 ds = some d → (∀ G' H' v, Gx G H G' H' → (∀ H0, RM K H0 H m G' H' d v) → Q v H') → r x xs H Q
def oFind3 (a : PyData) (ds : List PyData) : Option PyData := match a, ds with
  | .str x, [.str y, .int i] => some (.int (Txt.find3 x y i))
  | _, _ => none
end
end DV

namespace DV
open PySem L2 PySem.Spec PyProof.Rows
/-! ### calls with keywords -/
theorem RMs.app {K : PySem.W.Frag} {H0 Hs G H : Hp} : ∀ {m1 m2 : List Md} {d1 d2 : List PyData} {v1 v2 : List V}, RMs K H0 Hs G H m1 d1 v1 → RMs K H0 Hs G H m2 d2 v2 → RMs K H0 Hs G H (m1 ++ m2) (d1 ++ d2) (v1 ++ v2)
  | _, _, _, _, _, _, .nil, t => t
  | _, _, _, _, _, _, .cons h r, t => .cons h (RMs.app r t)
structure DK (X : Cx) (ms : List Md) (kws : List Keyword) (f : SA) : Prop where
  pk : PK X kws (tA X.K ms f)
section
variable {X : Cx} {m : Md} {ms ms1 ms2 ms3 : List Md} {e : Expr} {es : List Expr} {kws : List Keyword} {f : SE} {r r2 : SA} {nm : Option Str} {kpos pos p : Pos} {x : Str} {k n : Nat} {ps ks : List Str} {rm : Md} {Fn : List PyData → Option PyData} {dv : List V} {dd : List PyData}
/-- a def that is called with keywords: n values by place, keywords ks behind them, then the defaults dv -/
def FnKw (P : Program) (w : World) (K : PySem.W.Frag) (mg : Str → Option Value) (base : Heap) (x : Str) (ps : List Str) (k : Nat) (rm : Md) (ms : List Md) (F : List PyData → Option PyData) (n : Nat) (ks : List Str) (dv : List V) : Prop :=
  ∃ (f : Addr) (fd : FuncData) (g : List Value → List Value → List Value), FnOk P w K mg base CX0 k f fd ps (spD K rm ms F) ∧ mg x = some (.ref f) ∧ PySem.W.keepIn K (.ref f) = true ∧ KBn K fd ps n ks g (fun vs zs => vs ++ (zs ++ dv))
def eCallK (F : List PyData → Option PyData) (r r2 : SA) (dd : List PyData) : SE := fun ρ => (r ρ).bind fun a => (r2 ρ).bind fun b => F (a ++ (b ++ dd))
@[simp] theorem eCallK_r {F : List PyData → Option PyData} {ρ : Rho} : eCallK F r r2 dd ρ = (r ρ).bind fun a => (r2 ρ).bind fun b => F (a ++ (b ++ dd)) := rfl
end
/-! ### a list that is given away: return f(.., xs, ..) -/
def slotsM : List Md → List PyData → Rho
  | .new :: ms, d :: ds => .own d :: slotsM ms ds
  | _ :: ms, d :: ds => .val d :: slotsM ms ds
  | _, _ => []
def runM (n : Nat) (rm : Md) (ms : List Md) (f : SS) : List PyData → Option PyData := fun ds =>
  if ds.length = ms.length then (f (slotsM ms ds ++ List.replicate (n - ds.length) .un)).bind fun o => match o, rm with
    | .rt d, _ => some d
    | .nx _, .val => some .none
    | _, _ => none
  else none
def spM (K : PySem.W.Frag) (rm : Md) (ms : List Md) (F : List PyData → Option PyData) : Sp := fun vs H Q _ =>
  vs.length = ms.length ∧ ∃ G H0 ds d, Gx G H0 G H ∧ RMs K H0 H0 G H ms ds vs ∧ F ds = some d ∧ ∀ G' H' v, Gx G H0 G' H' → RM K H0 H0 rm G' H' d v → Q v H'
def ArgMv (ms : List Md) : Prop := ∀ m ∈ ms, m = .val ∨ m = .new
def oneNew : List Md → Bool
  | [] => true
  | .new :: ms => ms.all (· != Md.new)
  | _ :: ms => oneNew ms
/-- arguments, own lists among them -/
def tAm (K : PySem.W.Frag) (ms : List Md) (f : SA) : TA := fun σ H Q => ∃ G0 H0 G ρ ds, Sok K G0 H0 G ρ σ H ∧ f ρ = some ds ∧ ∀ G' H' vs, Gx G H G' H' → RMs K H0 H0 G' H' ms ds vs → Q vs H'
structure DAm (X : Cx) (ms : List Md) (es : List Expr) (f : SA) : Prop where
  pa : PA X es (tAm X.K ms f)
def eM (i : Nat) : SE := fun ρ => match ρ[i]? with
  | some (.own d) => some d
  | _ => none
@[simp] theorem eM_0 {d : PyData} {ρ : Rho} : eM 0 (.own d :: ρ) = some d := rfl
@[simp] theorem eM_s {s : Slot} {ρ : Rho} {k : Nat} : eM (k + 1) (s :: ρ) = eM k ρ := rfl
section
variable {X : Cx} {rm m : Md} {ms : List Md} {e : Expr} {es : List Expr} {f : SE} {r : SA} {pos p : Pos} {x y : Str} {k : Nat} {ps : List Str} {Fn : List PyData → Option PyData}
def Fn1M (P : Program) (w : World) (K : PySem.W.Frag) (mg : Str → Option Value) (base : Heap) (x : Str) (ps : List Str) (k : Nat) (rm : Md) (ms : List Md) (F : List PyData → Option PyData) : Prop :=
  ∃ (f : Addr) (fd : FuncData), FnOk P w K mg base CX0 k f fd ps (spM K rm ms F) ∧ mg x = some (.ref f) ∧ PySem.W.keepIn K (.ref f) = true ∧ Binds K fd ps []
def sRetMov (F : List PyData → Option PyData) (r : SA) : SS := fun ρ => (r ρ).bind fun ds => (F ds).bind fun d => some (.rt d)
@[simp] theorem sRetMov_r {F : List PyData → Option PyData} {ρ : Rho} : sRetMov F r ρ = (r ρ).bind fun ds => (F ds).bind fun d => some (.rt d) := rfl
end
end DV

namespace DV
open PySem L2 PySem.Spec PyProof.Rows
/-! ### dicts: keys ints and texts, or tuples of these (those begin with a mark) -/
def unK : PyData → Option Key
  | .int i => some (.inl i)
  | .str x => some (.inr x)
  | _ => none
theorem unK_key : ∀ k : Key, unK (keyD k) = some k
  | .inl _ => rfl
  | .inr _ => rfl
theorem unK_inv : ∀ {d : PyData} {k : Key}, unK d = some k → d = keyD k
  | .int i, k, h => by cases h; rfl
  | .str x, k, h => by cases h; rfl
def unKs : List PyData → Option (List Key)
  | [] => some []
  | d :: r => match unK d, unKs r with
    | some k, some ks => some (k :: ks)
    | _, _ => none
theorem unKs_keys : ∀ ks : List Key, unKs (ks.map keyD) = some ks
  | [] => rfl
  | k :: ks => by
    rw [List.map_cons, unKs, unK_key, unKs_keys ks]
theorem unKs_inv : ∀ {l : List PyData} {ks : List Key}, unKs l = some ks → l = ks.map keyD
  | [], ks, h => by cases h; rfl
  | d :: r, ks, h => by
    unfold unKs at h
    split at h
    · rename_i k ks' h1 h2
      cases h
      rw [List.map_cons, unK_inv h1, unKs_inv h2]
    · cases h
def unT : PyData → Option (List Key)
  | .tuple l => unKs l
  | _ => none
theorem unT_key (ks : List Key) : unT (keysD ks) = some ks := unKs_keys ks
theorem unT_inv : ∀ {d : PyData} {k : List Key}, unT d = some k → d = keysD k
  | .tuple l, k, h => by
    have h : unKs l = some k := h
    rw [unKs_inv h]; rfl
section
variable {κ : Type} [DecidableEq κ] (un : PyData → Option κ)
def valD : List (PyData × PyData) → κ → Option PyData
  | [], _ => none
  | p :: r, k => if un p.1 = some k then some p.2 else valD r k
def hasD : List (PyData × PyData) → κ → Bool
  | [], _ => false
  | p :: r, k => if un p.1 = some k then true else hasD r k
def repD : List (PyData × PyData) → κ → PyData → List (PyData × PyData)
  | [], _, _ => []
  | p :: r, k, v => (if un p.1 = some k then (p.1, v) else p) :: repD r k v
def putD (es : List (PyData × PyData)) (kd : PyData) (k : κ) (v : PyData) : List (PyData × PyData) := if hasD un es k = true then repD un es k v else es ++ [(kd, v)]
variable {kd : κ → PyData} {K : PySem.W.Frag} {G : Hp}
theorem valD_V (hun : ∀ k, un (kd k) = some k) : ∀ {es : List (PyData × PyData)} {ks : List (κ × V)}, es.map (·.1) = ks.map (fun p => kd p.1) → RepA K G (es.map (·.2)) (ks.map (·.2)) → ∀ k, (valD un es k = none ∧ valV ks k = none) ∨ ∃ d v, valD un es k = some d ∧ valV ks k = some v ∧ Rep K G d v
  | [], [], _, _, k => .inl ⟨rfl, rfl⟩
  | [], _ :: _, h, _, _ => by simp at h
  | _ :: _, [], h, _, _ => by simp at h
  | p :: es, q :: ks, h, r, k => by
    rw [List.map_cons, List.map_cons] at h
    injection h with h1 h2
    rw [List.map_cons, List.map_cons] at r
    cases r with
    | cons r1 r2 =>
      unfold valD
      rw [h1, hun]
      by_cases c : q.1 = k
      · rw [if_pos (by rw [c]), valV_pos c]
        exact .inr ⟨_, _, rfl, rfl, r1⟩
      · rw [if_neg (fun z => c (Option.some.inj z)), valV_neg c]
        exact valD_V hun h2 r2 k
theorem hasD_V (hun : ∀ k, un (kd k) = some k) : ∀ {es : List (PyData × PyData)} {ks : List (κ × V)}, es.map (·.1) = ks.map (fun p => kd p.1) → ∀ k, hasD un es k = ks.any fun p => decide (p.1 = k)
  | [], [], _, k => rfl
  | [], _ :: _, h, _ => by simp at h
  | _ :: _, [], h, _ => by simp at h
  | p :: es, q :: ks, h, k => by
    rw [List.map_cons, List.map_cons] at h
    injection h with h1 h2
    unfold hasD
    rw [h1, hun, List.any_cons]
    by_cases c : q.1 = k
    · rw [if_pos (by rw [c]), decide_eq_true c]; rfl
    · rw [if_neg (fun z => c (Option.some.inj z)), decide_eq_false c, Bool.false_or, hasD_V hun h2 k]
theorem repD_V (hun : ∀ k, un (kd k) = some k) {k : κ} {d : PyData} {v : V} (rv : Rep K G d v) : ∀ {es : List (PyData × PyData)} {ks : List (κ × V)}, es.map (·.1) = ks.map (fun p => kd p.1) → RepA K G (es.map (·.2)) (ks.map (·.2)) →
    (repD un es k d).map (·.1) = (ks.map fun kv => if kv.1 = k then (kv.1, v) else kv).map (fun p => kd p.1) ∧ RepA K G ((repD un es k d).map (·.2)) ((ks.map fun kv => if kv.1 = k then (kv.1, v) else kv).map (·.2))
  | [], [], _, _ => ⟨rfl, .nil⟩
  | [], _ :: _, h, _ => by simp at h
  | _ :: _, [], h, _ => by simp at h
  | p :: es, q :: ks, h, r => by
    rw [List.map_cons, List.map_cons] at h
    injection h with h1 h2
    rw [List.map_cons, List.map_cons] at r
    cases r with
    | cons r1 r2 =>
      obtain ⟨i1, i2⟩ := repD_V hun rv h2 r2
      unfold repD
      rw [List.map_cons, List.map_cons, List.map_cons, List.map_cons, List.map_cons]
      by_cases c : q.1 = k
      · rw [if_pos (by rw [h1, hun, c]), if_pos c]
        exact ⟨by rw [i1, h1], .cons rv i2⟩
      · rw [if_neg (fun z => c (by rw [h1, hun] at z; exact Option.some.inj z)), if_neg c]
        exact ⟨by rw [i1, h1], .cons r1 i2⟩
theorem putD_V (hun : ∀ k, un (kd k) = some k) {k : κ} {d : PyData} {v : V} (rv : Rep K G d v) {es : List (PyData × PyData)} {ks : List (κ × V)} (h : es.map (·.1) = ks.map (fun p => kd p.1)) (r : RepA K G (es.map (·.2)) (ks.map (·.2))) :
    (putD un es (kd k) k d).map (·.1) = (putK ks k v).map (fun p => kd p.1) ∧ RepA K G ((putD un es (kd k) k d).map (·.2)) ((putK ks k v).map (·.2)) := by
  unfold putD putK
  rw [hasD_V un hun h k]
  split
  · exact repD_V un hun rv h r
  · rw [List.map_append, List.map_append, List.map_append, List.map_append]
    exact ⟨by rw [h]; rfl, r.app (.cons rv .nil)⟩
end
/-- what stands in a dict at a key -/
def dGet : PyData → PyData → Option (Option PyData)
  | .dict ((.none, .none) :: es), k => (unT k).map (valD unT es)
  | .dict es, k => (unK k).map (valD unK es)
  | _, _ => none
def dPut : PyData → PyData → PyData → Option PyData
  | .dict ((.none, .none) :: es), k, v => (unT k).bind fun kk => if es.length < sizeLine then some (.dict ((.none, .none) :: putD unT es k kk v)) else none
  | .dict es, k, v => (unK k).bind fun kk => if es.length < sizeLine then some (.dict (putD unK es k kk v)) else none
  | _, _, _ => none
theorem keys_rep {K : PySem.W.Frag} {G : Hp} : ∀ {ks : List Key} {vs : List V}, RepA K G (ks.map keyD) vs → vs = ks.map kV
  | [], _, .nil => rfl
  | .inl i :: ks, _, .cons h t => by
    cases h
    rw [keys_rep t]; rfl
  | .inr i :: ks, _, .cons h t => by
    cases h
    rw [keys_rep t]; rfl
theorem key_rep {K : PySem.W.Frag} {G H : Hp} {k : PyData} {kk : Key} {y : V} (h : unK k = some kk) (r : RepB K G H k y) : y = kV kk := by
  rw [unK_inv h] at r
  cases kk with
  | inl i => exact r.int
  | inr x => exact r.str
theorem tkey_rep {K : PySem.W.Frag} {G H : Hp} {k : PyData} {kk : List Key} {y : V} (e : Ex G H) (h : unT k = some kk) (r : RepB K G H k y) : ∃ b, y = .ref b ∧ H b = some (.tup (kk.map kV)) := by
  rw [unT_inv h] at r
  cases r with
  | val r =>
    cases r with
    | tup h1 ra => exact ⟨_, rfl, by rw [e _ _ h1, keys_rep ra]⟩
theorem noneK {es : List (PyData × PyData)} {ks : List (Key × V)} (h : ((PyData.none, PyData.none) :: es).map (·.1) = ks.map (fun p => keyD p.1)) : False := by
  cases ks with
  | nil => simp at h
  | cons q ks =>
    rw [List.map_cons, List.map_cons] at h
    injection h with h1 h2
    obtain ⟨a, b⟩ := q
    cases a <;> cases h1
/-- a dict's data, by its keys -/
inductive DForm : PyData → Type where
  | t (es : List (PyData × PyData)) : DForm (.dict ((.none, .none) :: es))
theorem dict_ok {K : PySem.W.Frag} {G H : Hp} {d k : PyData} {x y : V} {o : Option PyData} (e : Ex G H) (rx : RepB K G H d x) (ry : RepB K G H k y) (h : dGet d k = some o) : ∃ a ov, x = .ref a ∧ IsD H a ∧ DGet H a y ov ∧ ((o = none ∧ ov = none) ∨ ∃ dv v, o = some dv ∧ ov = some v ∧ Rep K G dv v) := by
  have goK : ∀ (a : Addr) (ks : List (Key × V)) (es : List (PyData × PyData)), Rd H a (.dK ks) → es.map (·.1) = ks.map (fun p => keyD p.1) → RepA K G (es.map (·.2)) (ks.map (·.2)) → dGet (.dict es) k = some o → ∃ ov, IsD H a ∧ DGet H a y ov ∧ ((o = none ∧ ov = none) ∨ ∃ dv v, o = some dv ∧ ov = some v ∧ Rep K G dv v) := by
    intro a ks es rd hk ra hd
    have hd : (unK k).map (valD unK es) = some o := by
      unfold dGet at hd
      split at hd
      · rename_i z
        cases z
        exact (noneK hk).elim
      · rename_i z
        cases z
        exact hd
      · rename_i z1 z2
        exact absurd rfl (z2 _)
    obtain ⟨kk, hkk, rfl⟩ := map_some hd
    refine ⟨valV ks kk, .inl ⟨_, rd⟩, .inl ⟨ks, kk, rd, key_rep hkk ry, rfl⟩, ?_⟩
    rcases valD_V unK unK_key hk ra kk with ⟨z1, z2⟩ | ⟨dv, v, z1, z2, z3⟩
    · exact .inl ⟨z1, z2⟩
    · exact .inr ⟨dv, v, z1, z2, z3⟩
  have goT : ∀ (a : Addr) (ks : List (List Key × V)) (es : List (PyData × PyData)), Rd H a (.dT ks) → es.map (·.1) = ks.map (fun p => keysD p.1) → RepA K G (es.map (·.2)) (ks.map (·.2)) → dGet (.dict ((.none, .none) :: es)) k = some o → ∃ ov, IsD H a ∧ DGet H a y ov ∧ ((o = none ∧ ov = none) ∨ ∃ dv v, o = some dv ∧ ov = some v ∧ Rep K G dv v) := by
    intro a ks es rd hk ra hd
    have hd : (unT k).map (valD unT es) = some o := hd
    obtain ⟨kk, hkk, rfl⟩ := map_some hd
    obtain ⟨b, rfl, hb⟩ := tkey_rep e hkk ry
    refine ⟨valV ks kk, .inr ⟨_, rd⟩, .inr ⟨ks, kk, b, rd, rfl, hb, rfl⟩, ?_⟩
    rcases valD_V unT unT_key hk ra kk with ⟨z1, z2⟩ | ⟨dv, v, z1, z2, z3⟩
    · exact .inl ⟨z1, z2⟩
    · exact .inr ⟨dv, v, z1, z2, z3⟩
  cases rx with
  | val r =>
    cases r with
    | dK rd hk ra => exact (goK _ _ _ (e.rd (.inr rd)) hk ra h).elim fun ov q => ⟨_, ov, rfl, q⟩
    | dT rd hk ra => exact (goT _ _ _ (e.rd (.inr rd)) hk ra h).elim fun ov q => ⟨_, ov, rfl, q⟩
    | _ => cases h
  | lst => cases h
  | dK rd hk ra => exact (goK _ _ _ (.of rd) hk ra h).elim fun ov q => ⟨_, ov, rfl, q⟩
  | dT rd hk ra => exact (goT _ _ _ (.of rd) hk ra h).elim fun ov q => ⟨_, ov, rfl, q⟩
/-- an own dict is written -/
theorem dput_ok {K : PySem.W.Frag} {G H : Hp} {a : Addr} {d k dv d' : PyData} {y v : V} (e : Ex G H) (ow : Own K G H a d) (ry : RepB K G H k y) (rv : Rep K G dv v) (h : dPut d k dv = some d') : ∃ o, DPut H a y v (upd H a o) ∧ Own K G (upd H a o) a d' := by
  cases ow with
  | lst => cases h
  | @dK ks es ha hk ra =>
    have h : ((unK k).bind fun kk => if es.length < sizeLine then some (PyData.dict (putD unK es k kk dv)) else none) = some d' := by
      unfold dPut at h
      split at h
      · rename_i z
        cases z
        exact (noneK hk).elim
      · rename_i z
        cases z
        exact h
      · rename_i z1 z2
        exact absurd rfl (z2 _)
    obtain ⟨kk, hkk, h⟩ := bind_some h
    obtain ⟨hl, rfl⟩ := if_some h
    have hl2 : ks.length < sizeLine := by
      have := congrArg List.length hk
      rw [List.length_map, List.length_map] at this
      omega
    refine ⟨.dK (putK ks kk v), .inl ⟨ks, kk, ha, key_rep hkk ry, hl2, rfl⟩, ?_⟩
    obtain ⟨p1, p2⟩ := putD_V unK unK_key (k := kk) rv hk ra
    rw [← unK_inv hkk] at p1 p2
    exact .dK upd_same p1 p2
  | @dT ks es ha hk ra =>
    have h : ((unT k).bind fun kk => if es.length < sizeLine then some (PyData.dict ((.none, .none) :: putD unT es k kk dv)) else none) = some d' := h
    obtain ⟨kk, hkk, h⟩ := bind_some h
    obtain ⟨hl, rfl⟩ := if_some h
    obtain ⟨b, rfl, hb⟩ := tkey_rep e hkk ry
    have hl2 : ks.length < sizeLine := by
      have := congrArg List.length hk
      rw [List.length_map, List.length_map] at this
      omega
    refine ⟨.dT (putK ks kk v), .inr ⟨ks, kk, b, ha, rfl, hb, hl2, rfl⟩, ?_⟩
    obtain ⟨p1, p2⟩ := putD_V unT unT_key (k := kk) rv hk ra
    rw [← unT_inv hkk] at p1 p2
    exact .dT upd_same p1 p2
section
variable {X : Cx} {rm m : Md} {a b c e : Expr} {f g h : SE} {pos p1 apos : Pos} {k : Nat} {x : Str}
def oDGet (d k : PyData) : Option PyData := (dGet d k).bind id
theorem d_dget (hr : Room k X.A) (ha : DX X .bor a f) (hb : DX X .bor b g) (hs : NoSl b := by intro _ _; rfl) : DX X .val (.Subscript a b pos) (eOp oDGet f g) :=
  ⟨(pe_dget (hu_of hr) ha.pe hb.pe hs).imp fun σ H Q ⟨G0, H0, G, ρ, d, s, ed, q⟩ => by
    obtain ⟨d1, e1, ed⟩ := bind_some ed
    obtain ⟨d2, e2, ed⟩ := bind_some ed
    obtain ⟨o, e3, e4⟩ := bind_some ed
    have e4 : o = some d := e4
    refine ⟨G0, H0, G, ρ, d1, s, e1, fun G1 H1 u gx1 r1 => ⟨G0, H0, G1, ρ, d2, s.gx' gx1, e2, fun G2 H2 w gx2 r2 => ?_⟩⟩
    obtain ⟨a', ov, z1, z2, z3, z4⟩ := dict_ok gx2.gh (RepB.mono gx2.g gx2.h r1) r2 e3
    rcases z4 with ⟨z5, _⟩ | ⟨dv, v, z5, z6, z7⟩
    · rw [z5] at e4; cases e4
    · rw [z5] at e4; cases e4
      subst z6
      exact ⟨a', v, z1, z3, q G2 H2 v (gx1.trans gx2) z7⟩⟩
def oDIn (k d : PyData) : Option PyData := (dGet d k).map fun o => .bool o.isSome
def oDNotIn (k d : PyData) : Option PyData := (dGet d k).map fun o => .bool (!o.isSome)
theorem din_of : ∀ σ H Q, tE X.K .val (eOp oDIn g f) σ H Q → tDIn (tE X.K .bor g) (tE X.K .bor f) σ H Q := fun σ H Q ⟨G0, H0, G, ρ, d, s, ed, q⟩ => by
  obtain ⟨d1, e1, ed⟩ := bind_some ed
  obtain ⟨d2, e2, ed⟩ := bind_some ed
  obtain ⟨o, e3, rfl⟩ := map_some ed
  refine ⟨G0, H0, G, ρ, d1, s, e1, fun G1 H1 u gx1 r1 => ⟨G0, H0, G1, ρ, d2, s.gx' gx1, e2, fun G2 H2 w gx2 r2 => ?_⟩⟩
  obtain ⟨a', ov, z1, z2, z3, z4⟩ := dict_ok gx2.gh r2 (RepB.mono gx2.g gx2.h r1) e3
  refine ⟨a', ov, z1, z3, ?_⟩
  have : ov.isSome = o.isSome := by
    rcases z4 with ⟨z5, z6⟩ | ⟨dv, v, z5, z6, z7⟩ <;> rw [z5, z6] <;> rfl
  rw [this]
  exact q G2 H2 _ (gx1.trans gx2) (.bl _)
theorem t_din (hr : Room k X.A) (ha : DX X .bor a f) (hb : DX X .bor b g) (hm : behindInMarks .In b = false := by rfl) : DT X (.Compare a [.In] [b] pos) (bT (eOp oDIn f g)) := ⟨(pt_cmp (pc_din (hu_of hr) ha.pe hb.pe) hm).imp (tTest_of din_of)⟩
/-- d.get(y, x) -/
def oDGet2 (d : PyData) : List PyData → Option PyData
  | [k, x] => (dGet d k).map fun o => o.getD x
  | _ => none
theorem d_dget2 (hr : Room k X.A) (ha : DX X .bor a f) (hb : DX X .bor b g) (hc : DX X .val c h) (m : M2 X a "get" apos b c pos := by exact ⟨rfl, rfl, rfl, rfl⟩) : DX X .val (.Call (.Attribute a "get" apos) [b, c] [] pos) (eBm oDGet2 f (aCons g (aCons h aNil))) :=
  ⟨(pe_dget2 (hu_of hr) ha.pe hb.pe hc.pe m).imp fun σ H Q ⟨G0, H0, G, ρ, d, s, ed, q⟩ => by
    obtain ⟨d1, e1, ed⟩ := bind_some ed
    obtain ⟨ds, e2, ed⟩ := bind_some ed
    obtain ⟨d2, e3, e2⟩ := bind_some e2
    obtain ⟨ds2, e4, e2⟩ := bind_some e2
    obtain ⟨d3, e5, e4⟩ := bind_some e4
    cases e4
    cases e2
    obtain ⟨o, e6, rfl⟩ := map_some (show (dGet d1 d2).map (fun o => o.getD d3) = some d from ed)
    refine ⟨G0, H0, G, ρ, d1, s, e1, fun G1 H1 u gx1 r1 => ?_⟩
    have isd : ∃ a', u = .ref a' ∧ IsD H1 a' := by
      cases r1 with
      | val r =>
        cases r with
        | dK rd _ _ => exact ⟨_, rfl, .inl ⟨_, gx1.gh.rd (.inr rd)⟩⟩
        | dT rd _ _ => exact ⟨_, rfl, .inr ⟨_, gx1.gh.rd (.inr rd)⟩⟩
        | _ => cases e6
      | lst => cases e6
      | dK rd _ _ => exact ⟨_, rfl, .inl ⟨_, .of rd⟩⟩
      | dT rd _ _ => exact ⟨_, rfl, .inr ⟨_, .of rd⟩⟩
    obtain ⟨a', rfl, isd⟩ := isd
    refine ⟨a', rfl, isd, G0, H0, G1, ρ, d2, s.gx' gx1, e3, fun G2 H2 w gx2 r2 => ⟨G0, H0, G2, ρ, d3, (s.gx' gx1).gx' gx2, e5, fun G3 H3 z gx3 r3 => ?_⟩⟩
    have gx23 := gx2.trans gx3
    obtain ⟨a2, ov, z1, z2, z3, z4⟩ := dict_ok gx3.gh (RepB.mono gx23.g gx23.h r1) (RepB.mono gx3.g gx3.h r2) e6
    cases z1
    refine ⟨ov, z3, q G3 H3 _ (gx1.trans gx23) ?_⟩
    rcases z4 with ⟨z5, z6⟩ | ⟨dv, v, z5, z6, z7⟩
    · rw [z5, z6]; exact r3
    · rw [z5, z6]; exact z7⟩
theorem d_dnewK : DX X .new (.Dict [] [] pos) (eK (.dict [])) := ⟨pe_dnewK.imp fun σ H Q ⟨G0, H0, G, ρ, d, s, ed, q⟩ => by
  cases ed
  exact fun p np => q G _ _ (Gx.mine s.gx.gh np) ⟨p, rfl, np, s.gx.gh.back np, .dK upd_same rfl .nil⟩⟩
/-- d[k] = v -/
def sDPut (i : Nat) (fv fk : SE) : SS := fun ρ => match ρ[i]? with
  | some (.own d) => (fv ρ).bind fun v => (fk ρ).bind fun k => (dPut d k v).bind fun d' => some (.nx (ρ.set i (.own d')))
  | _ => none
theorem s_dput (i : Nat) {tpos : Pos} (hr : Room k X.A) (he : DX X .val e g) (hi : DX X .bor b f) (hN : X.N[i]? = some x := by rfl) (hv : Vis X.env.scope x := by first | exact Or.inl rfl | exact Or.inr (Or.inl rfl) | exact Or.inr (Or.inr rfl)) (hd : (x == ("__debug__" : Str)) = false := by decide)
    (hcd : (x == ("__classdict__" : Str)) = false := by decide) (hs : swapsWith e (some (.Subscript (.Name x p1) b tpos)) pos.line X.env = pure false := by rfl) : DS X rm (.Assign [.Subscript (.Name x p1) b tpos] e pos) (sDPut i g f) :=
  ⟨(ps_dput (hu_of hr) (pv i hN hv hd hcd) hi.pe he.pe hs).imp fun D σ H ⟨G0, H0, G, ρ, o, s, ed, q⟩ => by
    unfold sDPut at ed
    split at ed
    · rename_i d hd
      obtain ⟨v, e1, ed⟩ := bind_some ed
      obtain ⟨kd, e2, ed⟩ := bind_some ed
      obtain ⟨d', e3, ed⟩ := bind_some ed
      cases ed
      refine ⟨G0, H0, G, ρ, v, s, e1, fun G1 H1 u gx1 r1 => ?_⟩
      have s1 := s.gx' gx1
      obtain ⟨p, h1, h2, h3, h4⟩ := s1.own hd
      refine ⟨_, h1, G0, H0, G1, ρ, kd, s1, e2, fun G2 H2 y gx2 r2 => ?_⟩
      have s2 := s1.gx' gx2
      obtain ⟨p', k1, k2, k3, k4⟩ := s2.own hd
      rw [h1] at k1; cases k1
      obtain ⟨ho, z1, z2⟩ := dput_ok gx2.gh k4 r2 (Rep.mono gx2.g r1) e3
      exact ⟨p, _, rfl, z1, q G2 σ _ (gx1.g.trans gx2.g) (s2.write hd h1 k2 k3 z2)⟩
    · cases ed⟩
@[simp] theorem sDPut_r {i : Nat} {ρ : Rho} : sDPut i f g ρ = (match getS ρ i with
  | some (.own d) => (f ρ).bind fun v => (g ρ).bind fun k => (dPut d k v).bind fun d' => some (.nx (ρ.set i (.own d')))
  | _ => none) := by rw [getS_eq]; rfl
end
end DV

namespace DV
open PySem L2 PySem.Spec PyProof.Rows
/-! ### tuple + tuple, slices of tuples -/
def oTCat : PyData → PyData → Option PyData
  | .tuple xs, .tuple ys => if xs.length + ys.length ≤ sizeLine then some (.tuple (xs ++ ys)) else none
  | _, _ => none
def oSlT (d : PyData) (lo hi : Option Int) : Option PyData := match d with
  | .tuple ds => some (.tuple (cutD ds lo hi))
  | _ => none
section
variable {X : Cx} {rm m : Md} {e a : Expr} {f g : SE} {lo hi : Option Expr} {gl gh : SO} {p2 pos cpos apos : Pos}
/-- f(..).append(x): a new list that nobody keeps -/
def sAppTmp (f g : SE) : SS := fun ρ => (f ρ).bind fun d => match d with
  | .list l => (g ρ).bind fun _ => if l.length < sizeLine then some (.nx ρ) else none
  | _ => none
end
@[simp] theorem sAppTmp_r {f g : SE} {ρ : Rho} : sAppTmp f g ρ = (f ρ).bind fun d => match d with
  | .list l => (g ρ).bind fun _ => if l.length < sizeLine then some (.nx ρ) else none
  | _ => none := rfl
end DV

namespace DV
open PySem L2 PySem.Spec PyProof.Rows
/-! ### == of dicts -/
def shapedAll : List PyData → Bool
  | [] => true
  | d :: r => SeqAt.shaped d && shapedAll r
def eqvD : List (PyData × PyData) → List (PyData × PyData) → Bool
  | [], _ => true
  | p :: es, ls => (match (unK p.1).bind (valD unK ls) with
    | some v => PyData.eqv p.2 v
    | none => false) && eqvD es ls
def oDEq (ne : Bool) : PyData → PyData → Option PyData
  | .dict es, .dict ls => if (unKs (es.map (·.1))).isSome = true ∧ (unKs (ls.map (·.1))).isSome = true ∧ shapedAll (es.map (·.2)) = true ∧ shapedAll (ls.map (·.2)) = true then some (.bool (xor ne (es.length == ls.length && eqvD es ls))) else none
  | _, _ => none
def rDEq (K : PySem.W.Frag) (ne : Bool) : R2 := fun x y H Q => ∃ a b ks ls es fs, x = .ref a ∧ y = .ref b ∧ Rd H a (.dK ks) ∧ Rd H b (.dK ls) ∧ es.map (·.1) = ks.map (fun p => keyD p.1) ∧ fs.map (·.1) = ls.map (fun p => keyD p.1) ∧ DpAll K H (ks.map (·.2)) (es.map (·.2)) ∧ DpAll K H (ls.map (·.2)) (fs.map (·.2)) ∧ shapedAll (es.map (·.2)) = true ∧ shapedAll (fs.map (·.2)) = true ∧ Q (.bl (xor ne (es.length == fs.length && eqvD es fs))) H
theorem valD_dp {K : PySem.W.Frag} {H : Hp} : ∀ {fs : List (PyData × PyData)} {ls : List (Key × V)}, fs.map (·.1) = ls.map (fun p => keyD p.1) → DpAll K H (ls.map (·.2)) (fs.map (·.2)) → shapedAll (fs.map (·.2)) = true → ∀ k, (valD unK fs k = none ∧ valV ls k = none) ∨ ∃ d v, valD unK fs k = some d ∧ valV ls k = some v ∧ Dp K H v d ∧ SeqAt.shaped d = true
  | [], [], _, _, _, k => .inl ⟨rfl, rfl⟩
  | [], _ :: _, h, _, _, _ => by simp at h
  | _ :: _, [], h, _, _, _ => by simp at h
  | p :: fs, q :: ls, h, r, c, k => by
    rw [List.map_cons, List.map_cons] at h
    injection h with h1 h2
    rw [List.map_cons, List.map_cons] at r
    have c' : SeqAt.shaped p.2 = true ∧ shapedAll (fs.map (·.2)) = true := by simpa [shapedAll] using c
    cases r with
    | cons r1 r2 =>
      unfold valD
      rw [h1, unK_key]
      by_cases c2 : q.1 = k
      · rw [if_pos (by rw [c2]), valV_pos c2]
        exact .inr ⟨_, _, rfl, rfl, r1, c'.1⟩
      · rw [if_neg (fun z => c2 (Option.some.inj z)), valV_neg c2]
        exact valD_dp h2 r2 c'.2 k
theorem hits_dp {X : Cx} {pins : List (Addr × Obj)} {σ : L2.St} {H : Hp} {s : Shared} (I : Inv X pins σ H s) {A : Around} (hu : A.in1.units + 64 < cLine) {fs : List (PyData × PyData)} {ls : List (Key × V)} {vb : List (Key × Value)} (rb : KV ls vb) (hk : fs.map (·.1) = ls.map (fun p => keyD p.1)) (dp : DpAll X.K H (ls.map (·.2)) (fs.map (·.2))) (sh : shapedAll (fs.map (·.2)) = true) :
    ∀ {ks : List (Key × V)} {va : List (Key × Value)} {es : List (PyData × PyData)}, KV ks va → es.map (·.1) = ks.map (fun p => keyD p.1) → DpAll X.K H (ks.map (·.2)) (es.map (·.2)) → shapedAll (es.map (·.2)) = true → PySem.W.KeqHits A.in1 s vb va (eqvD es fs) := by
  intro ks va es ra
  unfold KV at ra
  induction ra generalizing es with
  | nil =>
    intro h _ _
    cases es with
    | nil => exact .nil
    | cons _ _ => simp at h
  | @cons p q ps qs h t ih =>
    intro hke r c
    cases es with
    | nil => simp at hke
    | cons e es =>
      rw [List.map_cons, List.map_cons] at hke
      injection hke with e1 e2
      rw [List.map_cons, List.map_cons] at r
      have c' : SeqAt.shaped e.2 = true ∧ shapedAll (es.map (·.2)) = true := by simpa [shapedAll] using c
      cases r with
      | cons r1 r2 =>
        obtain ⟨h1, h2⟩ := h
        obtain ⟨key, v⟩ := q
        have h1' : p.1 = key := h1
        have ih' := ih e2 r2 c'.2
        have rel := rb.val p.1
        unfold eqvD
        rw [e1, unK_key, Option.bind_some]
        rcases valD_dp hk dp sh p.1 with ⟨z1, z2⟩ | ⟨d, w, z1, z2, z3, z4⟩
        · rw [z1]
          rw [z2] at rel
          have hn := rel.none_of
          rw [h1'] at hn
          simp only [Bool.false_and]
          exact .miss hn
        · rw [z1]
          rw [z2] at rel
          obtain ⟨y, hy, ry⟩ := rel.some_of
          rw [h1'] at hy
          obtain ⟨as, q1⟩ := Dp.reads I _ _ _ r1 h2
          obtain ⟨bs, q2⟩ := Dp.reads I _ _ _ z3 ry
          exact .hit hy (PySem.W.keq_at q1 q2 c'.1 z4 hu) ih'
theorem len_of_map {α β γ : Type} {l : List α} {m : List β} {f : α → γ} {g : β → γ} (h : l.map f = m.map g) : l.length = m.length := by
  have := congrArg List.length h
  rw [List.length_map, List.length_map] at this
  exact this
theorem op_dne {X : Cx} (hu : X.A.units + 65 < cLine) : OpR X (compareOp .NotEq) (rDEq X.K true) := by
  intro pins s σ H x y v u Q I rx ry h
  obtain ⟨a, b, ks, ls, es, fs, rfl, rfl, ha, hb, h1, h2, d1, d2, s1, s2, q⟩ := h
  obtain rfl : v = Value.ref a := rx
  obtain rfl : u = Value.ref b := ry
  obtain ⟨_, ya, va, ra, da⟩ := dk_rd I.hok ha
  obtain ⟨_, yb, vb, rb, db⟩ := dk_rd I.hok hb
  have l1 := len_of_map h1
  have l2 := len_of_map h2
  have l3 := ra.length
  have l4 := rb.length
  refine PySem.W.keq_ne (knd := mixKind X.prog X.w) (r := eqvD es fs) ya yb da db (by omega) (fun _ => hits_dp I (by show X.A.units + 1 + 64 < cLine; omega) rb h2 d2 s2 ra h1 d1 s1) ⟨.bl _, H, I, ?_, q⟩
  rw [l1, l2, l3, l4]
  show Value.bool _ = Value.bool _
  simp
theorem shaped_canAll : ∀ {l : List PyData}, shapedAll l = true → PyData.canLayAll0 l = true
  | [], _ => by simp [PyData.canLayAll0]
  | d :: r, c => by
    have c' : SeqAt.shaped d = true ∧ shapedAll r = true := by simpa [shapedAll] using c
    simp [PyData.canLayAll0, SeqAt.canLay_of_shaped c'.1, shaped_canAll c'.2]
theorem dk_rep {K : PySem.W.Frag} {G H : Hp} (e : Ex G H) {es : List (PyData × PyData)} {v : V} (hk : (unKs (es.map (·.1))).isSome = true) (r : RepB K G H (.dict es) v) : ∃ a ks, v = .ref a ∧ Rd H a (.dK ks) ∧ es.map (·.1) = ks.map (fun p => keyD p.1) ∧ RepA K G (es.map (·.2)) (ks.map (·.2)) := by
  have noT : ∀ {es' : List (PyData × PyData)}, es = (.none, .none) :: es' → False := fun z => by
    subst z
    simp [unKs, unK] at hk
  cases r with
  | val r =>
    cases r with
    | dK h k ra => exact ⟨_, _, rfl, e.rd (.inr h), k, ra⟩
    | dT h k ra => exact (noT rfl).elim
  | dK h k ra => exact ⟨_, _, rfl, .inl h, k, ra⟩
  | dT h k ra => exact (noT rfl).elim
theorem opf_deq {K : PySem.W.Frag} (ne : Bool) : OpF K .val (rDEq K ne) (oDEq ne) := fun G H d1 d2 d x y Q e r1 r2 h q => by
  unfold oDEq at h
  split at h
  · obtain ⟨⟨c1, c2, c3, c4⟩, rfl⟩ := if_some h
    obtain ⟨a, ks, rfl, ha, h1, ra⟩ := dk_rep e c1 r1
    obtain ⟨b, ls, rfl, hb, h2, rb⟩ := dk_rep e c2 r2
    exact ⟨a, b, ks, ls, _, _, rfl, rfl, ha, hb, h1, h2, ra.dp e (shaped_canAll c3), rb.dp e (shaped_canAll c4), c3, c4, q G H _ (Gx.refl e) fun _ => .bl _⟩
  · cases h
/-! ### a dict is walked -/
def keysOf : PyData → Option (List PyData)
  | .dict ((.none, .none) :: es) => some (es.map (·.1))
  | .dict es => some (es.map (·.1))
  | _ => none
def sKeys (f : SE) : SI := fun ρ => (f ρ).bind keysOf
section
variable {K : PySem.W.Frag} {B G H : Hp} {ds : List PyData} {a : Addr} {o : Obj}
theorem rep_key (k : Key) : Rep K G (keyD k) (kV k) := by
  cases k with
  | inl i => exact .int i
  | inr x => exact .str x
theorem WalkD.keys {ks : List (Key × V)} (h : G a = some (.frz o (.dK ks))) (e : ds = ks.map fun p => keyD p.1) : WalkD K B G (Itk a o ks) ds where
  goes := fun i G2 H2 hi g1 g2 b => ⟨g2 _ _ (g1 _ _ h), by rw [e, List.length_map] at hi; exact hi⟩
  stops := fun G2 H2 g1 g2 b => ⟨g2 _ _ (g1 _ _ h), by rw [e, List.length_map]; exact Nat.le_refl _⟩
  yields := fun i d G2 H2 x H3 hi g1 g2 b y => by
    obtain ⟨rfl, k, v, hk, rfl⟩ := y
    refine ⟨G2, Gx.refl g2, ?_⟩
    rw [e, List.getElem?_map, hk] at hi
    cases hi
    exact rep_key k
end
section
variable {X : Cx} {rm m : Md} {a b c e tg : Expr} {f g h : SE} {pos p1 apos : Pos} {k : Nat} {x : Str}
@[simp] theorem sKeys_r {ρ : Rho} : sKeys f ρ = (f ρ).bind keysOf := rfl
/-! ### {k: v, ..} -/
def mergeD : List (PyData × PyData) → List (PyData × PyData) → Option (List (PyData × PyData))
  | acc, [] => some acc
  | acc, p :: r => (unK p.1).bind fun k => mergeD (putD unK acc p.1 k p.2) r
theorem mergeD_V {K : PySem.W.Frag} {G : Hp} : ∀ {es acc : List (PyData × PyData)} {kvs : List (Key × V)} {ks : List V} {vs : List V} {out : List (PyData × PyData)}, acc.map (·.1) = kvs.map (fun p => keyD p.1) → RepA K G (acc.map (·.2)) (kvs.map (·.2)) → RepA K G (es.map (·.1)) ks → RepA K G (es.map (·.2)) vs → mergeD acc es = some out →
    ∃ more : List (Key × V), ks.zip vs = more.map (fun kv => (kV kv.1, kv.2)) ∧ more.length = es.length ∧ out.map (·.1) = (mergeK kvs more).map (fun p => keyD p.1) ∧ RepA K G (out.map (·.2)) ((mergeK kvs more).map (·.2))
  | [], acc, kvs, ks, vs, out, h, r, ra, rb, e => by
    cases e
    rw [List.map_nil] at ra rb
    cases ra
    exact ⟨[], rfl, rfl, h, r⟩
  | p :: es, acc, kvs, ks, vs, out, h, r, ra, rb, e => by
    rw [List.map_cons] at ra rb
    cases ra with
    | @cons _ _ k ks rk rks =>
    cases rb with
    | @cons _ _ v vs rv rvs =>
    obtain ⟨kk, e1, e2⟩ := bind_some e
    rw [unK_inv e1] at e2
    obtain ⟨p1, p2⟩ := putD_V unK unK_key (k := kk) rv h r
    obtain ⟨more, m1, m2, m3, m4⟩ := mergeD_V p1 p2 rks rvs e2
    refine ⟨(kk, v) :: more, ?_, congrArg (· + 1) m2, m3, m4⟩
    rw [List.zip_cons_cons, List.map_cons, m1]
    have : k = kV kk := key_rep (H := G) e1 (.val rk)
    rw [this]
def eDsp (l : List (SE × SE)) : SE := fun ρ => (pairsD l ρ).bind fun es => if es.length ≤ 15 then (mergeD [] es).map .dict else none
where pairsD : List (SE × SE) → Rho → Option (List (PyData × PyData))
  | [], _ => some []
  | p :: r, ρ => (p.1 ρ).bind fun k => (p.2 ρ).bind fun v => (pairsD r ρ).map fun l => (k, v) :: l
structure DP (X : Cx) (pos : Pos) (keys : List (Option Expr)) (values : List Expr) (l : List (SE × SE)) : Prop where
  pps : ∃ trs, PPs X pos keys values trs ∧ ∀ (σ : L2.St) (H : Hp) (G0 : Fr) (H0 G : Hp) (ρ : Rho) (es : List (PyData × PyData)) (Q : List (V × V) → Hp → Prop), Sok X.K G0 H0 G ρ σ H → eDsp.pairsD l ρ = some es →
    (∀ G' H' ks vs, Gx G H G' H' → RepA X.K G' (es.map (·.1)) ks → RepA X.K G' (es.map (·.2)) vs → Q (ks.zip vs) H') → tPairs trs σ H Q
theorem dp_nil : DP X pos [] [] [] := ⟨[], pps_nil, fun σ H G0 H0 G ρ es Q s e q => by
  cases e
  exact q G H [] [] (Gx.refl s.gx.gh) .nil .nil⟩
theorem dp_cons {keys : List (Option Expr)} {values : List Expr} {l : List (SE × SE)} (hk : DX X .val a f) (hv : DX X .val b g) (hr : DP X pos keys values l) : DP X pos (some a :: keys) (b :: values) ((f, g) :: l) := by
  obtain ⟨trs, hp, w⟩ := hr.pps
  refine ⟨(tE X.K .val f, tE X.K .val g) :: trs, pps_cons hk.pe hv.pe hp, fun σ H G0 H0 G ρ es Q s e q => ?_⟩
  obtain ⟨d1, e1, e⟩ := bind_some e
  obtain ⟨d2, e2, e⟩ := bind_some e
  obtain ⟨es', e3, rfl⟩ := map_some e
  refine ⟨G0, H0, G, ρ, d1, s, e1, fun G1 H1 k gx1 r1 => ⟨G0, H0, G1, ρ, d2, s.gx' gx1, e2, fun G2 H2 v gx2 r2 => ?_⟩⟩
  refine w σ H2 G0 H0 G2 ρ es' _ ((s.gx' gx1).gx' gx2) e3 fun G3 H3 ks vs gx3 ra rb => ?_
  exact q G3 H3 (k :: ks) (v :: vs) ((gx1.trans gx2).trans gx3) (.cons (Rep.mono (gx2.trans gx3).g r1) ra) (.cons (Rep.mono gx3.g r2) rb)
theorem d_dsp {keys : List (Option Expr)} {values : List Expr} {l : List (SE × SE)} (h : DP X pos keys values l) (hall : keys.all (·.isSome) = true := by rfl) (hl : keys.length = values.length := by rfl) (h0 : keys ≠ [] := by simp)
    (h15 : keys.length ≤ 15 := by decide) : DX X .new (.Dict keys values pos) (eDsp l) := by
  obtain ⟨trs, hp, w⟩ := h.pps
  refine ⟨(pe_disp hp hall hl h0 h15).imp fun σ H Q ⟨G0, H0, G, ρ, d, s, ed, q⟩ => ?_⟩
  obtain ⟨es, e1, ed⟩ := bind_some ed
  have ed : (if es.length ≤ 15 then (mergeD [] es).map PyData.dict else none) = some d := ed
  split at ed
  · rename_i h15'
    obtain ⟨out, e2, rfl⟩ := map_some ed
    intro p np
    have gx0 : Gx G H G (upd H p (.dK [])) := Gx.mine s.gx.gh np
    have g0 : G p = none := s.gx.gh.back np
    refine w σ _ G0 H0 G ρ es _ (s.gx' gx0) e1 fun G1 H1 ks vs gx1 ra rb => ?_
    have hp1 : H1 p = some (.dK []) := gx1.h _ _ upd_same
    have g1 : G1 p = none := by
      cases z : G1 p with
      | none => rfl
      | some u =>
        rcases gx1.nw p (by rw [z]; simp) with y | y
        · exact absurd g0 y
        · rw [upd_same] at y; exact (show False from y).elim
    obtain ⟨more, m1, m2, m3, m4⟩ := mergeD_V (acc := []) (kvs := []) rfl .nil ra rb e2
    refine ⟨hp1, more, m1, by omega, ?_⟩
    have x01 := gx0.trans gx1
    exact q G1 _ _ ⟨x01.g, x01.h.mut np, x01.gh.mut g1, x01.nw⟩ ⟨p, rfl, np, g1, .dK upd_same m3 m4⟩
  · cases ed
/-! ### max and min of three -/
def cMax3 : List PyData → Option PyData
  | [.int i, .int j, .int l] => some (.int (max (max i j) l))
  | _ => none
def cMin3 : List PyData → Option PyData
  | [.int i, .int j, .int l] => some (.int (min (min i j) l))
  | _ => none
/-! ### len of a dict -/
def cLenD : List PyData → Option PyData
  | [.dict ((.none, .none) :: es)] => some (.int (es.length : Nat))
  | [.dict es] => some (.int (es.length : Nat))
  | _ => none
def rLenD : List V → Hp → VK → Prop := fun xs H Q => ∃ (p : Addr) (n : Nat), xs = [.ref p] ∧ ((∃ kvs, Rd H p (.dK kvs) ∧ n = kvs.length) ∨ ∃ kvs, Rd H p (.dT kvs) ∧ n = kvs.length) ∧ Q (.int (n : Nat)) H
end
end DV

namespace DV
open PySem L2 PySem.Spec PyProof.Rows PpSet
/-! ### {e for x in xs if .. for y in ys if ..}, of ints -/
/-- the comprehension -/
abbrev SC2 (elt t0 i0 : Expr) (c0 : List Expr) (t1 i1 : Expr) (c1 : List Expr) (sc : Scope) (pos : Pos) : Expr := .SetComp elt [⟨t0, i0, c0, 0⟩, ⟨t1, i1, c1, 0⟩] sc pos
section
variable {elt t0 i0 t1 i1 : Expr} {c0 c1 : List Expr} {sc : Scope} {pos : Pos} {it acc : Value} {env : Env}
variable {prog : Program} {w : World} {A : Around} {R : Result → Shared → Prop} {s : Shared}
/-- the tests of a clause -/
abbrev testsOf (cs : List Expr) (env : Env) := forIn (m := Sem) cs true fun c r => if r = true then do let ok ← isTrue c env (eval c env); pure (ForInStep.yield ok) else pure (ForInStep.yield r)
abbrev bad (prog : Program) (w : World) (A : Around) (env : Env) (R : Result → Shared → Prop) : Value → Shared → Prop := notedBy (model prog w) A env fun x z => R (.error x) z
end
/-! ### as a rule -/
section
variable {X : Cx}
/-- for every block that the comprehension may run in -/
def EvB (X : Cx) (sc : Scope) (P : Cx → Prop) : Prop := ∀ (s : Shared) (H : Hp) (C : Addr) (cl : List (PySem.Str × Addr)) (fp : List Addr), P (X.blk s H sc (compEnvC sc cl C X.env) fp)
/-- a turn of a source with Nx behind it: stop, or go on to W (i + 1) -/
def tTurn (J : It) (W : Nat → Nat → Hp → Prop) (done : Hp → Prop) (body : V → Hp → (Hp → Prop) → Prop) : Prop := ∀ i m H, W i m H →
  (J.stop i H ∧ done H) ∨ (J.go i H ∧ ∃ Nx : Hp → Prop, (∀ H', Nx H' → ∃ m', m' < m ∧ W (i + 1) m' H') ∧ ∀ x H', J.yld i H x H' → body x H' Nx)
def tSc2 (w : World) (wi : TI) (g : TG) (tt : TT) (wi1 : TI) (g1 : TG) (tt1 : TT) (te : TE) (vs vs1 : List Nat) : TE := fun σ H Q => wi σ H fun J H1 => ∀ D, H1 D = none → ∃ W : Nat → Nat → Hp → Prop, (∃ m, W 0 m (upd H1 D (SetO w D (fun _ => false) 0))) ∧
  tTurn J W (Q (.ref D)) fun x H' Nx => g x (wipe σ vs) H' fun σ2 H2 => wipe σ2 vs = wipe σ vs ∧ tt σ2 H2 fun b H3 =>
    if b = true then wi1 σ2 H3 fun J1 H4 => ∃ W1 : Nat → Nat → Hp → Prop, (∃ m, W1 0 m H4) ∧ tTurn J1 W1 Nx fun y H5 Nx1 => g1 y (wipe σ2 vs1) H5 fun σ3 H6 => wipe σ3 vs1 = wipe σ2 vs1 ∧ tt1 σ3 H6 fun b H7 =>
        if b = true then te σ3 H7 fun y H8 => ∃ (k : Int) (S : Int → Bool) (n : Nat), y = .int k ∧ H8 D = some (SetO w D S n) ∧ n + 1 < scanBound ∧ Nx1 (upd H8 D (SetO w D (fun j => S j || decide (j = k)) (if S k = true then n else n + 1))) else Nx1 H7
    else Nx H3
end
end DV

namespace DV
open PySem L2 PySem.Spec PyProof.Rows
/-! ### two fors: on data -/
def lc2Go (g : SG) (t : SB) (fi1 : SI) (g1 : SG) (t1 : SB) (e : SE) (vs1 : List Nat) (ρ : Rho) : List PyData → Option (List PyData)
  | [] => some []
  | d :: ds => (g d ρ).bind fun ρ1 => (t ρ1).bind fun k => if k = true then (fi1 ρ1).bind fun ds1 => (lcGo g1 t1 e (wipeR ρ1 vs1) ds1).bind fun ys => (lc2Go g t fi1 g1 t1 e vs1 ρ ds).bind fun zs => some (ys ++ zs) else lc2Go g t fi1 g1 t1 e vs1 ρ ds
def eLc2 (fi : SI) (g : SG) (t : SB) (fi1 : SI) (g1 : SG) (t1 : SB) (e : SE) (vs vs1 : List Nat) : SE := fun ρ => (fi ρ).bind fun ds => (lc2Go g t fi1 g1 t1 e vs1 (wipeR ρ vs) ds).bind fun ys => if ys.length ≤ sizeLine then some (.list ys) else none
/-- a target makes no slot an own one -/
class GNo (g : SG) : Prop where
  no : ∀ d ρ ρ' (i : Nat) e, g d ρ = some ρ' → ρ'[i]? = some (.own e) → ρ[i]? = some (.own e)
class GsNo (g : SGs) : Prop where
  no : ∀ d ρ ρ' (i : Nat) e, g d ρ = some ρ' → ρ'[i]? = some (.own e) → ρ[i]? = some (.own e)
theorem set_no {ρ : Rho} {k i : Nat} {t : Slot} {e : PyData} (ht : ∀ d, t ≠ .own d) (h : (ρ.set k t)[i]? = some (.own e)) : ρ[i]? = some (.own e) ∧ (k < ρ.length → i ≠ k) := by
  by_cases z : k = i
  · subst z
    by_cases hl : k < ρ.length
    · rw [List.getElem?_set_self hl] at h
      exact absurd (Option.some.inj h) (ht e)
    · rw [List.set_eq_of_length_le (by omega)] at h
      exact ⟨h, fun y => absurd y hl⟩
  · rw [List.getElem?_set_ne z] at h
    exact ⟨h, fun _ y => z y.symm⟩
instance (k : Nat) : GNo (gV k) where
  no := fun d ρ ρ' i e h h2 => by
    obtain ⟨_, rfl⟩ := if_some h
    exact (set_no (fun _ z => by cases z) h2).1
instance : GsNo gsNil where
  no := fun d ρ ρ' i e h h2 => by
    unfold gsNil at h
    split at h
    · cases h; exact h2
    · cases h
instance (g : SG) (r : SGs) [a : GNo g] [b : GsNo r] : GsNo (gsCons g r) where
  no := fun d ρ ρ' i e h h2 => by
    unfold gsCons at h
    split at h
    · obtain ⟨ρ1, e1, e2⟩ := bind_some h
      exact a.no _ _ _ _ _ e1 (b.no _ _ _ _ _ e2 h2)
    · cases h
instance (n : Nat) (r : SGs) [b : GsNo r] : GNo (gT n r) where
  no := fun d ρ ρ' i e h h2 => by
    unfold gT at h
    split at h
    · exact b.no _ _ _ _ _ (ite_some h).2 h2
    · cases h
theorem wipeR_no {ρ : Rho} {i : Nat} {e : PyData} : ∀ {vs : List Nat}, (wipeR ρ vs)[i]? = some (.own e) → ρ[i]? = some (.own e) ∧ i ∉ vs
  | [], h => ⟨h, by simp⟩
  | v :: vs, h => by
    obtain ⟨h1, h2⟩ := set_no (fun _ z => by cases z) h
    obtain ⟨h3, h4⟩ := wipeR_no h1
    refine ⟨h3, fun z => ?_⟩
    rcases List.mem_cons.mp z with rfl | z
    · exact h2 (by have := (List.getElem?_eq_some_iff.mp h1).1; exact this) rfl
    · exact h4 z
section
variable {K : PySem.W.Frag} {G0 : Fr} {H0 G H G' H' : Hp} {ρ ρ1 : Rho} {σ σ2 : L2.St} {D : Addr} {o : HO}
/-- no slot owns D -/
def NoD (D : Addr) (ρ : Rho) (σ : L2.St) : Prop := ∀ (i : Nat) d, ρ[i]? = some (.own d) → σ[i]? ≠ some (some (.ref D))
theorem NoD.wipe (n : NoD D ρ σ) (vs : List Nat) : NoD D (wipeR ρ vs) (L2.wipe σ vs) := fun i d hi e => by
  obtain ⟨h1, h2⟩ := wipeR_no hi
  rw [wipe_out h2] at e
  exact n i d h1 e
/-- what is gathered at D -/
structure Gath (K : PySem.W.Frag) (D : Addr) (ys : List PyData) (add : V → Hp → (Hp → Prop) → Prop) (Ac : Hp → List PyData → HO → Prop) : Prop where
  mono : ∀ {G G' : Hp} {l : List PyData} {o : HO}, Ex G G' → Ac G l o → Ac G' l o
  nf : ∀ {G : Hp} {l : List PyData} {o : HO}, Ac G l o → ¬ Fresh (some o)
  put : ∀ {G H : Hp} {l r : List PyData} {y : PyData} {v : V} {o : HO} {Nx : Hp → Prop}, ys = l ++ y :: r → Ac G l o → H D = some o → Rep K G y v → (∀ o', Ac G (l ++ [y]) o' → Nx (upd H D o')) → add v H Nx
variable {g g1 : SG} {t t1 : SB} {f : SE} {fi1 : SI} {vs vs1 : List Nat} {J : It} {ds ys : List PyData} {add : V → Hp → (Hp → Prop) → Prop} {Ac : Hp → List PyData → HO → Prop}
end
section
variable {X : Cx} {tg elt iter tg1 iter1 : Expr} {f : SE} {fi fi1 : SI} {g g1 : SG} {t t1 : SB} {pos : Pos} {ifs ifs1 : List Expr} {scope : Scope} {own : List (Str × Nat)} {vs vs1 : List Nat} {wide : Bool}
end
/-! ### sets of ints, in order -/
def insI (k : Int) : List Int → List Int
  | [] => [k]
  | a :: r => if k < a then k :: a :: r else if k = a then a :: r else a :: insI k r
def sortI (l : List Int) : List Int := l.foldl (fun acc k => insI k acc) []
section
variable {K : PySem.W.Frag}
end
section
variable {X : Cx} {tg elt iter tg1 iter1 : Expr} {f : SE} {fi fi1 : SI} {g g1 : SG} {t t1 : SB} {pos pos' p : Pos} {ifs ifs1 : List Expr} {scope : Scope} {own : List (Str × Nat)} {vs vs1 : List Nat} {wide : Bool} {x : Str}
/-- sorted({elt for .. for ..}), of ints -/
def eSortS (fi : SI) (g : SG) (t : SB) (fi1 : SI) (g1 : SG) (t1 : SB) (e : SE) (vs vs1 : List Nat) : SE := fun ρ => (fi ρ).bind fun ds => (lc2Go g t fi1 g1 t1 e vs1 (wipeR ρ vs) ds).bind fun ys => (intsOf ys).bind fun ns => if (sortI ns).length < 64 then some (.list ((sortI ns).map .int)) else none
end
end DV

namespace DV
open PySem L2 PySem.Spec PyProof.Rows
/-! ### sorted: pairs of ints, ints -/
abbrev I2 := Int × Int
def encI2 (p : I2) : PyData := .tuple [.int p.1, .int p.2]
def ltI2 (p q : I2) : Prop := p.1 < q.1 ∨ (p.1 = q.1 ∧ p.2 < q.2)
instance (p q : I2) : Decidable (ltI2 p q) := by unfold ltI2; exact inferInstance
def insP (p : I2) : List I2 → List I2
  | [] => [p]
  | q :: r => if ltI2 q p then q :: insP p r else p :: q :: r
def sortP (l : List I2) : List I2 := l.foldr insP []
def AscP (l : List I2) : Prop := l.Pairwise fun x y => ¬ ltI2 y x
def pairsOf : List PyData → Option (List I2)
  | [] => some []
  | .tuple [.int i, .int j] :: r => (pairsOf r).map ((i, j) :: ·)
  | _ => none
def cSortP : List PyData → Option PyData
  | [.list l] => (pairsOf l).map fun ps => .list ((sortP ps).map encI2)
  | _ => none
/-- what a pair at an address says -/
def keyP (H : Hp) : V → I2
  | .ref t => match H t with
    | some (.tup [.int i, .int j]) => (i, j)
    | _ => (0, 0)
  | _ => (0, 0)
end DV

namespace DV
open PySem L2
/-! ### range(lo, hi, step), step above 0 -/
def rng3 : List PyData → Option (List PyData)
  | [.int i, .int j, .int c] => if c ≠ 0 ∧ c.natAbs < 1073741824 ∧ Builtin.Range.small i j c = true ∧ 0 ≤ Builtin.Range.rangeSize i j c then some (rangeC i c (Builtin.Range.rangeSize i j c).toNat) else none
  | _ => none
section
variable {X : Cx} {tg a b c : Expr} {p pos : Pos} {r : SA}
end
end DV

namespace DV
open PySem L2 PySem.Spec PyProof.Rows
open Classical
/-! ### the world: things that change, by their handles -/
inductive WV where
  | d (x : PyData) | r (h : Nat)
inductive WO where
  | lst (l : List WV)
  | dK (es : List (Key × WV))
  | ins (c : Str) (fs : List (Str × WV))
  | gone (d : PyData)
  | tab (x : Str)
  | lk (es : List (Key × WV))
abbrev Wd := List WO
def WO.isI : WO → Bool
  | .ins _ _ => true
  | _ => false
/-- frozen, or there -/
def WO.isG : WO → Bool
  | .gone _ => true
  | _ => false
/-- where the things stand; an instance's dict -/
structure Pl where
  a : Nat → Addr
  x : Nat → Addr
  o : Nat → Option HO
inductive RepV (K : PySem.W.Frag) (G : Hp) (α : Pl) (n : Nat) : WV → V → Prop
  | d {x : PyData} {v : V} : Rep K G x v → RepV K G α n (.d x) v
  | r {h : Nat} : h < n → RepV K G α n (.r h) (.ref (α.a h))
inductive RepVA (K : PySem.W.Frag) (G : Hp) (α : Pl) (n : Nat) : List WV → List V → Prop
  | nil : RepVA K G α n [] []
  | cons {x : WV} {xs : List WV} {v : V} {vs : List V} : RepV K G α n x v → RepVA K G α n xs vs → RepVA K G α n (x :: xs) (v :: vs)
/-- the places go on -/
def Pl.Le (n : Nat) (α α' : Pl) : Prop := ∀ h, h < n → α'.a h = α.a h ∧ α'.x h = α.x h ∧ α'.o h = α.o h
theorem Pl.Le.refl (n : Nat) (α : Pl) : Pl.Le n α α := fun _ _ => ⟨rfl, rfl, rfl⟩
theorem Pl.Le.trans {n m : Nat} {α β γ : Pl} (h : Pl.Le n α β) (hm : n ≤ m) (k : Pl.Le m β γ) : Pl.Le n α γ := fun i hi =>
  ⟨(k i (Nat.lt_of_lt_of_le hi hm)).1.trans (h i hi).1, (k i (Nat.lt_of_lt_of_le hi hm)).2.1.trans (h i hi).2.1, (k i (Nat.lt_of_lt_of_le hi hm)).2.2.trans (h i hi).2.2⟩
theorem RepV.mono {K : PySem.W.Frag} {G G' : Hp} {α α' : Pl} {n n' : Nat} (e : Ex G G') (hn : n ≤ n') (l : Pl.Le n α α') {x : WV} {v : V} (h : RepV K G α n x v) : RepV K G' α' n' x v := by
  cases h with
  | d h => exact .d (h.mono e)
  | @r h hl =>
    rw [← (l h hl).1]
    exact .r (Nat.lt_of_lt_of_le hl hn)
theorem RepVA.mono {K : PySem.W.Frag} {G G' : Hp} {α α' : Pl} {n n' : Nat} (e : Ex G G') (hn : n ≤ n') (l : Pl.Le n α α') : ∀ {xs : List WV} {vs : List V}, RepVA K G α n xs vs → RepVA K G' α' n' xs vs
  | _, _, .nil => .nil
  | _, _, .cons h t => .cons (h.mono e hn l) (t.mono e hn l)
theorem RepVA.len {K : PySem.W.Frag} {G : Hp} {α : Pl} {n : Nat} : ∀ {xs : List WV} {vs : List V}, RepVA K G α n xs vs → xs.length = vs.length
  | _, _, .nil => rfl
  | _, _, .cons _ t => congrArg (· + 1) t.len
theorem RepVA.get {K : PySem.W.Frag} {G : Hp} {α : Pl} {n : Nat} : ∀ {xs : List WV} {vs : List V} {i : Nat} {x : WV}, RepVA K G α n xs vs → xs[i]? = some x → ∃ v, vs[i]? = some v ∧ RepV K G α n x v
  | _, _, _, _, .nil, e => by simp at e
  | _, _, 0, _, .cons h _, e => by simp at e; subst e; exact ⟨_, rfl, h⟩
  | _, _, i + 1, x, .cons _ t, e => by
    obtain ⟨v, h1, h2⟩ := t.get (i := i) (x := x) (by simpa using e)
    exact ⟨v, by simpa using h1, h2⟩
theorem RepVA.app {K : PySem.W.Frag} {G : Hp} {α : Pl} {n : Nat} : ∀ {xs ys : List WV} {vs us : List V}, RepVA K G α n xs vs → RepVA K G α n ys us → RepVA K G α n (xs ++ ys) (vs ++ us)
  | _, _, _, _, .nil, t => t
  | _, _, _, _, .cons h s, t => .cons h (s.app t)
theorem RepVA.set {K : PySem.W.Frag} {G : Hp} {α : Pl} {n : Nat} : ∀ {xs : List WV} {vs : List V} {x : WV} {v : V} (i : Nat), RepVA K G α n xs vs → RepV K G α n x v → RepVA K G α n (xs.set i x) (vs.set i v)
  | _, _, _, _, _, .nil, _ => .nil
  | _, _, _, _, 0, .cons _ t, h => .cons h t
  | _, _, _, _, i + 1, .cons q t, h => .cons q (t.set i h)
theorem RepVA.take {K : PySem.W.Frag} {G : Hp} {α : Pl} {n : Nat} : ∀ {xs : List WV} {vs : List V} (i : Nat), RepVA K G α n xs vs → RepVA K G α n (xs.take i) (vs.take i)
  | _, _, 0, _ => .nil
  | _, _, _ + 1, .nil => .nil
  | _, _, i + 1, .cons h t => .cons h (t.take i)
theorem RepVA.drop {K : PySem.W.Frag} {G : Hp} {α : Pl} {n : Nat} : ∀ {xs : List WV} {vs : List V} (i : Nat), RepVA K G α n xs vs → RepVA K G α n (xs.drop i) (vs.drop i)
  | _, _, 0, t => t
  | _, _, _ + 1, .nil => .nil
  | _, _, i + 1, .cons _ t => t.drop i
theorem RepVA.data {K : PySem.W.Frag} {G : Hp} {α : Pl} {n : Nat} : ∀ {ds : List PyData} {vs : List V}, RepA K G ds vs → RepVA K G α n (ds.map .d) vs
  | _, _, .nil => .nil
  | _, _, .cons h t => .cons (.d h) (RepVA.data t)
theorem RepVA.ofData {K : PySem.W.Frag} {G : Hp} {α : Pl} {n : Nat} : ∀ {ds : List PyData} {vs : List V}, RepVA K G α n (ds.map .d) vs → RepA K G ds vs
  | [], _, .nil => .nil
  | d :: ds, _, .cons h t => by
    cases h with
    | d h => exact .cons h (RepVA.ofData t)
/-- a thing of the world stands in the heap -/
def ObjW (K : PySem.W.Frag) (cl : Str → Addr) (G : Hp) (α : Pl) (n : Nat) (H : Hp) (h : Nat) : WO → Prop
  | .lst l => ∃ vs, H (α.a h) = some (.lst vs) ∧ RepVA K G α n l vs
  | .dK es => ∃ ks, H (α.a h) = some (.dK ks) ∧ es.map (·.1) = ks.map (·.1) ∧ RepVA K G α n (es.map (·.2)) (ks.map (·.2))
  | .ins c fs => ∃ vs, H (α.a h) = some (.ins (cl c) (α.x h) vs) ∧ H (α.x h) = some (.own (α.a h)) ∧ fs.map (·.1) = vs.map (·.1) ∧ RepVA K G α n (fs.map (·.2)) (vs.map (·.2))
  | .gone d => Rep K G d (.ref (α.a h))
  | .lk es => ∃ ks od, α.o h = some (.frz od (.dK ks)) ∧ H (α.a h) = some (.frz od (.dK ks)) ∧ es.map (·.1) = ks.map (·.1) ∧ RepVA K G α n (es.map (·.2)) (ks.map (·.2))
  | .tab x => α.a h = cl x ∧ ∃ ps, H (α.a h) = some (.tbl ps) ∧ TriplesOk ps.toList
/-- the addresses of the world -/
def dom (α : Pl) (w : Wd) (p : Addr) : Prop := ∃ h o, w[h]? = some o ∧ o.isG = false ∧ (p = α.a h ∨ (o.isI = true ∧ p = α.x h))
noncomputable def putW (H0 : Hp) (D : Addr → Prop) (H : Hp) : Hp := fun p => if D p then H p else H0 p
noncomputable def hideW (H : Hp) (D : Addr → Prop) : Hp := fun p => if D p then none else H p
section
variable {K : PySem.W.Frag} {cl : Str → Addr} {H H' H0 G G' : Hp} {α α' : Pl} {w w' : Wd} {p : Addr} {o : HO} {D D' : Addr → Prop}
theorem putW_in (h : D p) : putW H0 D H p = H p := if_pos h
theorem putW_out (h : ¬ D p) : putW H0 D H p = H0 p := if_neg h
theorem hideW_in (h : D p) : hideW H D p = none := if_pos h
theorem hideW_out (h : ¬ D p) : hideW H D p = H p := if_neg h
theorem hideW_le : Ex (hideW H D) H := fun p o h => by
  by_cases e : D p
  · rw [hideW_in e] at h; cases h
  · rw [hideW_out e] at h; exact h
theorem ObjW.mono {n n' : Nat} {h : Nat} {o : WO} (e : Ex G G') (hn : n ≤ n') (l : Pl.Le n α α') (hh : h < n) (ha : o.isG = false → H' (α.a h) = H (α.a h)) (hx : o.isI = true → H' (α.x h) = H (α.x h)) (x : ObjW K cl G α n H h o) : ObjW K cl G' α' n' H' h o := by
  cases o with
  | lst t =>
    obtain ⟨vs, e1, r⟩ := x
    exact ⟨vs, by rw [(l h hh).1, ha rfl, e1], r.mono e hn l⟩
  | dK es =>
    obtain ⟨ks, e1, e2, r⟩ := x
    exact ⟨ks, by rw [(l h hh).1, ha rfl, e1], e2, r.mono e hn l⟩
  | ins c fs =>
    obtain ⟨vs, e1, e2, e3, r⟩ := x
    exact ⟨vs, by rw [(l h hh).1, (l h hh).2.1, ha rfl, e1], by rw [(l h hh).1, (l h hh).2.1, hx rfl, e2], e3, r.mono e hn l⟩
  | gone d =>
    show Rep K G' d (.ref (α'.a h))
    rw [(l h hh).1]
    exact Rep.mono e x
  | lk es =>
    obtain ⟨ks, od, e0, e1, e2, r⟩ := x
    exact ⟨ks, od, by rw [(l h hh).2.2, e0], by rw [(l h hh).1, ha rfl, e1], e2, r.mono e hn l⟩
  | tab y =>
    obtain ⟨e1, ps, e2, r⟩ := x
    exact ⟨by rw [(l h hh).1, e1], ps, by rw [(l h hh).1, ha rfl, e2], r⟩
theorem ObjW.there {n h : Nat} {o : WO} (hg : o.isG = false) (x : ObjW K cl G α n H h o) : (∃ u, H (α.a h) = some u ∧ ¬ Fresh (some u) ∧ ∀ y, u ≠ .own y) ∧ (o.isI = true → H (α.x h) = some (.own (α.a h))) := by
  cases o with
  | lst t => obtain ⟨vs, e1, r⟩ := x; exact ⟨⟨_, e1, id, fun y => by simp⟩, fun z => by cases z⟩
  | dK es => obtain ⟨ks, e1, r⟩ := x; exact ⟨⟨_, e1, id, fun y => by simp⟩, fun z => by cases z⟩
  | ins c fs => obtain ⟨vs, e1, e2, r⟩ := x; exact ⟨⟨_, e1, id, fun y => by simp⟩, fun _ => e2⟩
  | gone d => cases hg
  | tab y => obtain ⟨e0, ps, e1, r⟩ := x; exact ⟨⟨_, e1, id, fun y => by simp⟩, fun z => by cases z⟩
  | lk es => obtain ⟨ks, od, e0, e1, r⟩ := x; exact ⟨⟨_, e1, id, fun y => by simp⟩, fun z => by cases z⟩
end
def Fr.at (F : Fr) (α : Pl) (n : Nat) : Fr := { F with sts := fun h a => h < n ∧ a = α.a h }
structure WOk (K : PySem.W.Frag) (cl : Str → Addr) (F : Fr) (H0 G H : Hp) (α : Pl) (w : Wd) : Prop where
  inj : ∀ h h' o o', w[h]? = some o → w[h']? = some o' → o.isG = false → o'.isG = false → α.a h = α.a h' → h = h'
  obj : ∀ h o, w[h]? = some o → ObjW K cl G α w.length H h o
  g : ∀ p, dom α w p → G p = none
  b : ∀ p, dom α w p → F.b p = none
  h : ∀ p, dom α w p → H0 p = none
  p : ∀ p, dom α w p → ∀ i vs, F.pin i ≠ some (p, vs)
structure Nok (K : PySem.W.Frag) (cl : Str → Addr) (F : Fr) (H0 G : Hp) (ρ : Rho) (σ : L2.St) (H : Hp) (w : Wd) (α : Pl) : Prop where
  sok : Sok K (F.at α w.length) (putW H0 (dom α w) H) G ρ σ H
  ww : WOk K cl F H0 G H α w
/-- how heaps and world go on -/
structure Nx (G H : Hp) (w : Wd) (α : Pl) (G' H' : Hp) (w' : Wd) (α' : Pl) : Prop where
  g : Ex G G'
  h : Ex (hideW H (dom α w)) (hideW H' (dom α' w'))
  le : ∀ p, dom α w p → dom α' w' p ∨ G' p ≠ none
  n : w.length ≤ w'.length
  al : Pl.Le w.length α α'
  nw : ∀ p, G' p ≠ none → G p ≠ none ∨ Fresh (hideW H (dom α w) p)
theorem Ex.there {G G' : Hp} (e : Ex G G') {p : Addr} (h : G p ≠ none) : G' p ≠ none := by
  cases z : G p with
  | none => exact absurd z h
  | some u => rw [e p u z]; simp
theorem Nx.refl {G H : Hp} {w : Wd} {α : Pl} : Nx G H w α G H w α := ⟨Ex.refl _, Ex.refl _, fun _ h => .inl h, Nat.le_refl _, .refl _ _, fun _ h => .inl h⟩
theorem Nx.trans {G H G1 H1 G2 H2 : Hp} {w w1 w2 : Wd} {α α1 α2 : Pl} (a : Nx G H w α G1 H1 w1 α1) (b : Nx G1 H1 w1 α1 G2 H2 w2 α2) : Nx G H w α G2 H2 w2 α2 :=
  ⟨a.g.trans b.g, a.h.trans b.h, fun p h => (a.le p h).elim (b.le p) fun z => .inr (b.g.there z), Nat.le_trans a.n b.n, a.al.trans a.n b.al, fun p h => (b.nw p h).elim (a.nw p) fun h => .inr (h.back a.h)⟩
section
variable {K : PySem.W.Frag} {cl : Str → Addr} {F : Fr} {H0 G H G' H' : Hp} {ρ ρ' : Rho} {σ σ' : L2.St} {w w' : Wd} {α α' : Pl} {d : PyData} {v : V}
theorem WOk.there (W : WOk K cl F H0 G H α w) {p : Addr} (h : dom α w p) : ∃ u, H p = some u ∧ ¬ Fresh (some u) := by
  obtain ⟨i, o, e, hg, hp | ⟨hi, hp⟩⟩ := h
  · subst hp
    obtain ⟨u, h1, h2, _⟩ := ((W.obj i o e).there hg).1
    exact ⟨u, h1, h2⟩
  · subst hp
    exact ⟨_, ((W.obj i o e).there hg).2 hi, id⟩
theorem dom_a {h : Nat} {o : WO} (e : w[h]? = some o) (hg : o.isG = false) : dom α w (α.a h) := ⟨h, o, e, hg, .inl rfl⟩
theorem WO.gi {o : WO} (h : o.isI = true) : o.isG = false := by cases o <;> first | rfl | cases h
theorem dom_x {h : Nat} {o : WO} (e : w[h]? = some o) (hi : o.isI = true) : dom α w (α.x h) := ⟨h, o, e, o.gi hi, .inr ⟨hi, rfl⟩⟩
theorem Nok.gh (s : Nok K cl F H0 G ρ σ H w α) : Ex G H := s.sok.gx.gh
theorem lt_of {h : Nat} {o : WO} (e : w[h]? = some o) : h < w.length := (List.getElem?_eq_some_iff.mp e).1
theorem WOk.gx (W : WOk K cl F H0 G H α w) (x : Gx G H G' H') : WOk K cl F H0 G' H' α w := by
  refine ⟨W.inj, fun h o e => ?_, fun p hp => ?_, W.b, W.h, W.p⟩
  · have z := W.obj h o e
    refine z.mono x.g (Nat.le_refl _) (.refl _ _) (lt_of e) (fun hg => ?_) fun hi => ?_
    · obtain ⟨u, h1, _⟩ := (z.there hg).1
      rw [h1]; exact x.h _ _ h1
    · have h1 := (z.there (o.gi hi)).2 hi
      rw [h1]; exact x.h _ _ h1
  · cases e : G' p with
    | none => rfl
    | some u =>
      obtain ⟨y, h1, h2⟩ := W.there hp
      rcases x.nw p (by rw [e]; simp) with z | z
      · exact absurd (W.g p hp) z
      · rw [h1] at z; exact absurd z h2
theorem putW_eq (W : WOk K cl F H0 G H α w) (x : Ex H H') : putW H0 (dom α w) H' = putW H0 (dom α w) H := by
  funext p
  by_cases e : dom α w p
  · obtain ⟨u, h1, _⟩ := W.there e
    rw [putW_in e, putW_in e, h1]; exact x _ _ h1
  · rw [putW_out e, putW_out e]
theorem Nok.gx' (s : Nok K cl F H0 G ρ σ H w α) (x : Gx G H G' H') : Nok K cl F H0 G' ρ σ H' w α := ⟨by rw [putW_eq s.ww x.h]; exact s.sok.gx' x, s.ww.gx x⟩
theorem Nx.gx (x : Gx G H G' H') : Nx G H w α G' H' w α := by
  refine ⟨x.g, fun p o q => ?_, fun _ h => .inl h, Nat.le_refl _, .refl _ _, fun p hp => (x.nw p hp).imp id fun h => ?_⟩
  · by_cases z : dom α w p
    · rw [hideW_in z] at q; cases q
    · rw [hideW_out z] at q ⊢; exact x.h p o q
  · by_cases z : dom α w p
    · rw [hideW_in z]; exact True.intro
    · rw [hideW_out z]; exact h
/-- a step of the pure layer: own things may have changed -/
theorem Nok.sok' (s : Nok K cl F H0 G ρ σ H w α) (e : Ex G G') (s' : Sok K (F.at α w.length) (putW H0 (dom α w) H) G' ρ' σ' H') : Nok K cl F H0 G' ρ' σ' H' w α := by
  have keep : ∀ p, dom α w p → H' p = H p := fun p hp => by
    obtain ⟨u, h1, _⟩ := s.ww.there hp
    rw [h1]
    exact s'.gx.h p u (by rw [putW_in hp]; exact h1)
  have ep : putW H0 (dom α w) H' = putW H0 (dom α w) H := by
    funext p
    by_cases z : dom α w p
    · rw [putW_in z, putW_in z, keep p z]
    · rw [putW_out z, putW_out z]
  refine ⟨by rw [ep]; exact s', ⟨s.ww.inj, fun h o q => ?_, fun p hp => ?_, s.ww.b, s.ww.h, s.ww.p⟩⟩
  · exact (s.ww.obj h o q).mono e (Nat.le_refl _) (.refl _ _) (lt_of q) (fun hg => keep _ (dom_a q hg)) fun hi => keep _ (dom_x q hi)
  · cases e2 : G' p with
    | none => rfl
    | some u =>
      exfalso
      obtain ⟨y, h1, h2⟩ := s.ww.there hp
      rcases s'.gx.nw p (by rw [e2]; simp) with z | z
      · cases e3 : (F.at α w.length).g p with
        | none => exact z e3
        | some u2 =>
          have := s.sok.gx.g p u2 e3
          rw [s.ww.g p hp] at this; cases this
      · rw [putW_in hp, h1] at z
        exact h2 z
/-- Sok with more handles -/
theorem Sok.handles {F : Fr} {B : Hp} {m n : Nat} (s : Sok K (F.at α m) B G ρ σ H) (hn : m ≤ n) (l : Pl.Le m α α') : Sok K (F.at α' n) B G ρ σ H := by
  refine ⟨s.gx, s.len, fun i t hi => ?_, s.apart, s.pins, s.base, s.wf⟩
  have q := s.slot i t hi
  generalize σ[i]?.getD none = x at q
  cases q with
  | un => exact .un
  | val h => exact .val h
  | bor h => exact .bor h
  | scr h => exact .scr h
  | pin => exact .pin
  | own h1 h2 h3 => exact .own h1 h2 h3
  | @st h a hs =>
    obtain ⟨h1, h2⟩ := hs
    exact .st ⟨Nat.lt_of_lt_of_le h1 hn, by rw [(l h h1).1]; exact h2⟩
/-- the world changes: what is in it, and what comes to it -/
theorem Nok.chg (s : Nok K cl F H0 G ρ σ H w α) (hn : w.length ≤ w'.length) (l : Pl.Le w.length α α') (le : ∀ p, dom α w p → dom α' w' p) (new : ∀ p, dom α' w' p → dom α w p ∨ H p = none) (hout : ∀ p, ¬ dom α' w' p → H' p = H p)
    (inj : ∀ h h' o o', w'[h]? = some o → w'[h']? = some o' → o.isG = false → o'.isG = false → α'.a h = α'.a h' → h = h') (obj : ∀ h o, w'[h]? = some o → ObjW K cl G α' w'.length H' h o) : Nok K cl F H0 G ρ σ H' w' α' := by
  have gx := s.sok.gx
  have W := s.ww
  have hn0 : ∀ p, dom α' w' p → H p ≠ none → dom α w p := fun p h q => (new p h).resolve_right q
  have wg : ∀ p, dom α' w' p → G p = none := fun p h => by
    cases e : G p with
    | none => rfl
    | some u =>
      have := W.g p (hn0 p h (by rw [gx.gh p u e]; simp))
      rw [e] at this; cases this
  have h0 : ∀ p, dom α' w' p → H0 p = none := fun p h => by
    cases e : H0 p with
    | none => rfl
    | some u =>
      have hH : H p ≠ none := by
        by_cases z : dom α w p
        · obtain ⟨y, h1, _⟩ := W.there z
          rw [h1]; simp
        · rw [gx.h p u (by rw [putW_out z]; exact e)]; simp
      have := W.h p (hn0 p h hH)
      rw [e] at this; cases this
  have wb : ∀ p, dom α' w' p → F.b p = none := fun p h => by
    cases e : F.b p with
    | none => rfl
    | some u =>
      have := W.b p (hn0 p h (by rw [gx.h p u (s.sok.base p u e)]; simp))
      rw [e] at this; cases this
  have wp : ∀ p, dom α' w' p → ∀ i vs, F.pin i ≠ some (p, vs) := fun p h i vs e => by
    have q := s.sok.wf i p vs e
    exact W.p p (hn0 p h (by rw [gx.h p _ q]; simp)) i vs e
  have out' : ∀ p, ¬ dom α' w' p → ¬ dom α w p := fun p h z => h (le p z)
  have exg : ∀ {A B : Hp}, (∀ p, dom α' w' p → A p = none) → Ex A B → (∀ p, ¬ dom α' w' p → H' p = B p) → Ex A H' := fun {A B} hA e hb p o h => by
    by_cases z : dom α' w' p
    · rw [hA p z] at h; cases h
    · rw [hb p z]; exact e p o h
  have sl := (s.sok.handles hn l)
  refine ⟨⟨⟨gx.g, fun p o h => ?_, exg wg gx.gh hout, fun p hp => ?_⟩, s.sok.len, fun i t ht => ?_, s.sok.apart, s.sok.pins, fun p o h => ?_, fun i p vs h => ?_⟩, ⟨inj, obj, wg, wb, h0, wp⟩⟩
  · by_cases z : dom α' w' p
    · rw [putW_in z] at h; exact h
    · rw [putW_out z] at h
      rw [hout p z]
      exact gx.h p o (by rw [putW_out (out' p z)]; exact h)
  · rcases gx.nw p hp with q | q
    · exact .inl q
    · right
      by_cases z : dom α' w' p
      · exact absurd (wg p z) hp
      · rw [putW_out z]; rw [putW_out (out' p z)] at q; exact q
  · have q := sl.slot i t ht
    generalize σ[i]?.getD none = x at q
    cases q with
    | un => exact .un
    | val h => exact .val h
    | bor h => exact .bor h
    | scr h => exact .scr h
    | pin => exact .pin
    | st h => exact .st h
    | @own d p h1 h2 h3 =>
      obtain ⟨u, hu⟩ := h3.there
      have z : ¬ dom α' w' p := fun z => by
        have q1 := hn0 p z (by rw [hu]; simp)
        rw [putW_in q1, hu] at h1; cases h1
      refine .own ?_ h2 (h3.mono (Ex.refl _) (hout p z))
      rw [putW_out z]
      rw [putW_out (out' p z)] at h1
      exact h1
  · have q := s.sok.base p o h
    by_cases z : dom α' w' p
    · have := wb p z
      rw [show F.b p = some o from h] at this; cases this
    · rw [putW_out z]; rw [putW_out (out' p z)] at q; exact q
  · have q := s.sok.wf i p vs h
    by_cases z : dom α' w' p
    · exact absurd h (wp p z i vs)
    · rw [putW_out z]; rw [putW_out (out' p z)] at q; exact q
theorem Nx.chg (hn : w.length ≤ w'.length) (l : Pl.Le w.length α α') (le : ∀ p, dom α w p → dom α' w' p) (new : ∀ p, dom α' w' p → dom α w p ∨ H p = none) (hout : ∀ p, ¬ dom α' w' p → H' p = H p) : Nx G H w α G H' w' α' := by
  refine ⟨Ex.refl _, fun p o h => ?_, fun p h => .inl (le p h), hn, l, fun _ h => .inl h⟩
  by_cases z : dom α w p
  · rw [hideW_in z] at h; cases h
  · rw [hideW_out z] at h
    by_cases z2 : dom α' w' p
    · rcases new p z2 with q | q
      · exact absurd q z
      · rw [q] at h; cases h
    · rw [hideW_out z2, hout p z2]; exact h
/-- the thing of a handle becomes another one of its kind -/
theorem dom_set {h : Nat} {o o' : WO} (e : w[h]? = some o) (hg : o'.isG = o.isG) (hi : o'.isI = o.isI) {p : Addr} : dom α (w.set h o') p ↔ dom α w p := by
  have hl := lt_of e
  constructor
  · rintro ⟨i, u, e1, z⟩
    by_cases q : h = i
    · subst q
      rw [List.getElem?_set_self hl] at e1
      cases e1
      exact ⟨h, o, e, by rw [← hi, ← hg]; exact z⟩
    · rw [List.getElem?_set_ne q] at e1
      exact ⟨i, u, e1, z⟩
  · rintro ⟨i, u, e1, z⟩
    by_cases q : h = i
    · subst q
      rw [e] at e1; cases e1
      exact ⟨h, o', List.getElem?_set_self hl, by rw [hi, hg]; exact z⟩
    · exact ⟨i, u, by rw [List.getElem?_set_ne q]; exact e1, z⟩
theorem Nok.turn (s : Nok K cl F H0 G ρ σ H w α) {h : Nat} {o o' : WO} {u : HO} (e : w[h]? = some o) (hi : o'.isI = o.isI) (x : ObjW K cl G α w.length (upd H (α.a h) u) h o') (hg : o.isG = false := by rfl) (hg' : o'.isG = false := by rfl) : Nok K cl F H0 G ρ σ (upd H (α.a h) u) (w.set h o') α ∧ Nx G H w α G (upd H (α.a h) u) (w.set h o') α := by
  have hl := lt_of e
  have gg : o'.isG = o.isG := hg'.trans hg.symm
  have hlen : (w.set h o').length = w.length := List.length_set ..
  have out : ∀ p, ¬ dom α (w.set h o') p → upd H (α.a h) u p = H p := fun p z => upd_ne fun q => z ((dom_set e gg hi).mpr (by rw [q]; exact dom_a e hg))
  have back : ∀ {i : Nat} {v : WO}, (w.set h o')[i]? = some v → v.isG = false → ∃ v', w[i]? = some v' ∧ v'.isG = false := fun {i v} hv gv => by
    by_cases q : h = i
    · subst q; exact ⟨o, e, hg⟩
    · rw [List.getElem?_set_ne q] at hv; exact ⟨v, hv, gv⟩
  have inj' : ∀ i j a b, (w.set h o')[i]? = some a → (w.set h o')[j]? = some b → a.isG = false → b.isG = false → α.a i = α.a j → i = j := fun i j a b h1 h2 g1 g2 z => by
    obtain ⟨a', h1, g1⟩ := back h1 g1
    obtain ⟨b', h2, g2⟩ := back h2 g2
    exact s.ww.inj i j a' b' h1 h2 g1 g2 z
  refine ⟨s.chg (by rw [hlen]; exact Nat.le_refl _) (.refl _ _) (fun p z => (dom_set e gg hi).mpr z) (fun p z => .inl ((dom_set e gg hi).mp z)) out inj' fun i v hv => ?_,
    .chg (by rw [hlen]; exact Nat.le_refl _) (.refl _ _) (fun p z => (dom_set e gg hi).mpr z) (fun p z => .inl ((dom_set e gg hi).mp z)) out⟩
  rw [hlen]
  by_cases q : h = i
  · subst q
    rw [List.getElem?_set_self hl] at hv
    cases hv
    exact x
  · rw [List.getElem?_set_ne q] at hv
    have y := s.ww.obj i v hv
    refine y.mono (Ex.refl _) (Nat.le_refl _) (.refl _ _) (lt_of hv) (fun gv => upd_ne fun z => q (s.ww.inj h i o v e hv hg gv z.symm)) fun hi2 => upd_ne fun z => ?_
    have h1 := (y.there (v.gi hi2)).2 hi2
    obtain ⟨t, h2, _, h3⟩ := ((s.ww.obj h o e).there hg).1
    rw [z, h2] at h1
    exact h3 _ (Option.some.inj h1)
/-- a new thing (a list, a dict) comes to the world -/
def Pl.put (α : Pl) (n : Nat) (p x : Addr) : Pl := ⟨fun h => if h = n then p else α.a h, fun h => if h = n then x else α.x h, α.o⟩
theorem Pl.put_le {n : Nat} {p x : Addr} : Pl.Le n α (α.put n p x) := fun h hh => ⟨if_neg (Nat.ne_of_lt hh), if_neg (Nat.ne_of_lt hh), rfl⟩
theorem dom_new {o : WO} {p x q : Addr} (hg : o.isG = false) : dom (α.put w.length p x) (w ++ [o]) q ↔ dom α w q ∨ q = p ∨ (o.isI = true ∧ q = x) := by
  constructor
  · rintro ⟨i, u, e1, z⟩
    by_cases hl : i < w.length
    · rw [List.getElem?_append_left hl] at e1
      rw [(Pl.put_le (p := p) (x := x) i hl).1, (Pl.put_le (p := p) (x := x) i hl).2.1] at z
      exact .inl ⟨i, u, e1, z⟩
    · have : i = w.length := by
        have := lt_of e1
        simp at this; omega
      subst this
      rw [List.getElem?_concat_length] at e1
      cases e1
      rw [show (α.put w.length p x).a w.length = p from if_pos rfl, show (α.put w.length p x).x w.length = x from if_pos rfl] at z
      exact .inr z.2
  · rintro (⟨i, u, e1, z⟩ | z)
    · have hl := lt_of e1
      refine ⟨i, u, by rw [List.getElem?_append_left hl]; exact e1, ?_⟩
      rw [(Pl.put_le (p := p) (x := x) i hl).1, (Pl.put_le (p := p) (x := x) i hl).2.1]
      exact z
    · refine ⟨w.length, o, List.getElem?_concat_length, hg, ?_⟩
      rw [show (α.put w.length p x).a w.length = p from if_pos rfl, show (α.put w.length p x).x w.length = x from if_pos rfl]
      exact z
theorem Nok.make (s : Nok K cl F H0 G ρ σ H w α) {p x : Addr} {o : WO} (np : H p = none) (nx : o.isI = true → H x = none) (hout : ∀ q, q ≠ p → ¬ (o.isI = true ∧ q = x) → H' q = H q)
    (ob : ObjW K cl G (α.put w.length p x) (w.length + 1) H' w.length o) (hg : o.isG = false := by rfl) : Nok K cl F H0 G ρ σ H' (w ++ [o]) (α.put w.length p x) ∧ Nx G H w α G H' (w ++ [o]) (α.put w.length p x) := by
  have hlen : (w ++ [o]).length = w.length + 1 := by simp
  have hn : w.length ≤ (w ++ [o]).length := by rw [hlen]; omega
  have new : ∀ q, dom (α.put w.length p x) (w ++ [o]) q → dom α w q ∨ H q = none := fun q z => by
    rcases (dom_new hg).mp z with z | z | z
    · exact .inl z
    · rw [z]; exact .inr np
    · rw [z.2]; exact .inr (nx z.1)
  have out : ∀ q, ¬ dom (α.put w.length p x) (w ++ [o]) q → H' q = H q := fun q z => hout q (fun e => z ((dom_new hg).mpr (.inr (.inl e)))) fun e => z ((dom_new hg).mpr (.inr (.inr e)))
  have old : ∀ q, dom α w q → H' q = H q := fun q z => by
    obtain ⟨u, h1, _⟩ := s.ww.there z
    refine hout q (fun e => ?_) fun e => ?_
    · rw [e, np] at h1; cases h1
    · rw [e.2, nx e.1] at h1; cases h1
  refine ⟨s.chg hn Pl.put_le (fun q z => (dom_new hg).mpr (.inl z)) new out (fun h h' o1 o2 h1 h2 g1 g2 e => ?_) fun i v hv => ?_, .chg hn Pl.put_le (fun q z => (dom_new hg).mpr (.inl z)) new out⟩
  · have key : ∀ {j : Nat} {oj : WO}, w[j]? = some oj → oj.isG = false → α.a j ≠ p := fun {j oj} hj gj z => by
      obtain ⟨u, h1, _⟩ := s.ww.there (dom_a hj gj)
      rw [z, np] at h1; cases h1
    have cs : ∀ {j : Nat} {oj : WO}, (w ++ [o])[j]? = some oj → (j < w.length ∧ w[j]? = some oj) ∨ j = w.length := fun {j oj} hj => by
      by_cases c : j < w.length
      · rw [List.getElem?_append_left c] at hj; exact .inl ⟨c, hj⟩
      · right
        have := lt_of hj
        rw [hlen] at this; omega
    rcases cs h1 with ⟨c1, h1⟩ | c1
    · rw [(Pl.put_le (p := p) (x := x) h c1).1] at e
      rcases cs h2 with ⟨c2, h2⟩ | c2
      · rw [(Pl.put_le (p := p) (x := x) h' c2).1] at e
        exact s.ww.inj h h' _ _ h1 h2 g1 g2 e
      · subst c2
        rw [show (α.put w.length p x).a w.length = p from if_pos rfl] at e
        exact absurd e (key h1 g1)
    · subst c1
      rw [show (α.put w.length p x).a w.length = p from if_pos rfl] at e
      rcases cs h2 with ⟨c2, h2⟩ | c2
      · rw [(Pl.put_le (p := p) (x := x) h' c2).1] at e
        exact absurd e.symm (key h2 g2)
      · exact c2.symm
  · rw [hlen]
    by_cases hl : i < w.length
    · rw [List.getElem?_append_left hl] at hv
      exact (s.ww.obj i v hv).mono (Ex.refl _) (by omega) Pl.put_le hl (fun gv => old _ (dom_a hv gv)) fun hi => old _ (dom_x hv hi)
    · have : i = w.length := by
        have := lt_of hv
        rw [hlen] at this; omega
      subst this
      rw [List.getElem?_concat_length] at hv
      cases hv
      exact ob
theorem Nx.dom' (x : Nx G H w α G' H' w' α') (W' : WOk K cl F H0 G' H' α' w') (gh : Ex G' H') {p : Addr} (h : H' p = none) : H p = none := by
  by_cases z : dom α w p
  · rcases x.le p z with z | z
    · obtain ⟨u, h1, _⟩ := W'.there z
      rw [h1] at h; cases h
    · exact absurd h (gh.there z)
  · cases e : H p with
    | none => rfl
    | some o =>
      have := hideW_le p o (x.h p o (by rw [hideW_out z]; exact e))
      rw [this] at h; cases h
theorem gx_hide (W : WOk K cl F H0 G H α w) {g : Hp} (x : Gx g (putW H0 (dom α w) H) G H) : Gx g H0 G (hideW H (dom α w)) := by
  refine ⟨x.g, fun p o h => ?_, fun p o h => ?_, fun p hp => (x.nw p hp).imp id fun h => ?_⟩
  · have z : ¬ dom α w p := fun z => by rw [W.h p z] at h; cases h
    rw [hideW_out z]
    exact x.h p o (by rw [putW_out z]; exact h)
  · have z : ¬ dom α w p := fun z => by rw [W.g p z] at h; cases h
    rw [hideW_out z]
    exact x.gh p o h
  · have z : ¬ dom α w p := fun z => hp (W.g p z)
    rw [putW_out z] at h; exact h
theorem gx_show (W : WOk K cl F H0 G H α w) {g : Hp} (x : Gx g H0 G (hideW H (dom α w))) : Gx g (putW H0 (dom α w) H) G H := by
  refine ⟨x.g, fun p o h => ?_, x.gh.trans hideW_le, fun p hp => (x.nw p hp).imp id fun h => ?_⟩
  · by_cases z : dom α w p
    · rw [putW_in z] at h; exact h
    · rw [putW_out z] at h
      exact hideW_le p o (x.h p o h)
  · have z : ¬ dom α w p := fun z => hp (W.g p z)
    rw [putW_out z]; exact h
theorem Nok.hide (s : Nok K cl F H0 G ρ σ H w α) : Sok K (F.at α w.length) H0 G ρ σ (hideW H (dom α w)) := by
  have W := s.ww
  refine ⟨gx_hide W s.sok.gx, s.sok.len, fun i t ht => ?_, s.sok.apart, s.sok.pins, fun p o h => ?_, fun i p vs h => ?_⟩
  · have q := s.sok.slot i t ht
    generalize σ[i]?.getD none = x at q
    cases q with
    | un => exact .un
    | val h => exact .val h
    | bor h => exact .bor h
    | scr h => exact .scr h
    | pin => exact .pin
    | st h => exact .st h
    | @own d p h1 h2 h3 =>
      obtain ⟨u, hu⟩ := h3.there
      have z : ¬ dom α w p := fun z => by
        rw [putW_in z, hu] at h1; cases h1
      refine .own (by rw [putW_out z] at h1; exact h1) h2 (h3.mono (Ex.refl _) (hideW_out z))
  · have q := s.sok.base p o h
    have z : ¬ dom α w p := fun z => by
      have := W.b p z
      rw [show F.b p = some o from h] at this; cases this
    rw [putW_out z] at q; exact q
  · have q := s.sok.wf i p vs h
    have z : ¬ dom α w p := fun z => W.p p z i vs h
    rw [putW_out z] at q; exact q
theorem Nok.show (s : Sok K (F.at α w.length) H0 G ρ σ (hideW H (dom α w))) (W : WOk K cl F H0 G H α w) : Nok K cl F H0 G ρ σ H w α := by
  refine ⟨⟨gx_show W s.gx, s.len, fun i t ht => ?_, s.apart, s.pins, fun p o h => ?_, fun i p vs h => ?_⟩, W⟩
  · have q := s.slot i t ht
    generalize σ[i]?.getD none = x at q
    cases q with
    | un => exact .un
    | val h => exact .val h
    | bor h => exact .bor h
    | scr h => exact .scr h
    | pin => exact .pin
    | st h => exact .st h
    | @own d p h1 h2 h3 =>
      obtain ⟨u, hu⟩ := h3.there
      have z : ¬ dom α w p := fun z => by
        rw [hideW_in z] at hu; cases hu
      refine .own (by rw [putW_out z]; exact h1) h2 (h3.mono (Ex.refl _) (hideW_out z).symm)
  · have q := s.base p o h
    have z : ¬ dom α w p := fun z => by
      have := W.b p z
      rw [show F.b p = some o from h] at this; cases this
    rw [putW_out z]; exact q
  · have q := s.wf i p vs h
    have z : ¬ dom α w p := fun z => W.p p z i vs h
    rw [putW_out z]; exact q
theorem Nok.h0 (s : Nok K cl F H0 G ρ σ H w α) {p : Addr} (h : H p = none) : H0 p = none := by
  cases e : H0 p with
  | none => rfl
  | some u =>
    have := hideW_le p u (s.hide.gx.h p u e)
    rw [h] at this; cases this
/-- how the world of a caller stands -/
structure WW (K : PySem.W.Frag) (cl : Str → Addr) (G H : Hp) (α : Pl) (w : Wd) : Prop where
  gh : Ex G H
  inj : ∀ h h' o o', w[h]? = some o → w[h']? = some o' → o.isG = false → o'.isG = false → α.a h = α.a h' → h = h'
  obj : ∀ h o, w[h]? = some o → ObjW K cl G α w.length H h o
  g : ∀ p, dom α w p → G p = none
/-- what a call leaves -/
structure Bk (K : PySem.W.Frag) (cl : Str → Addr) (G H : Hp) (w : Wd) (α : Pl) (G' H' : Hp) (w' : Wd) (α' : Pl) : Prop where
  gx : Gx G (hideW H (dom α w)) G' (hideW H' (dom α' w'))
  le : ∀ p, dom α w p → dom α' w' p ∨ G' p ≠ none
  n : w.length ≤ w'.length
  al : Pl.Le w.length α α'
  ww : WW K cl G' H' α' w'
  new : ∀ p, dom α' w' p → hideW H (dom α w) p = none
theorem Nok.ww' (s : Nok K cl F H0 G ρ σ H w α) : WW K cl G H α w := ⟨s.gh, s.ww.inj, s.ww.obj, s.ww.g⟩
theorem Bk.nx (b : Bk K cl G H w α G' H' w' α') : Nx G H w α G' H' w' α' := ⟨b.gx.g, b.gx.h, b.le, b.n, b.al, b.gx.nw⟩
theorem Nok.back (s : Nok K cl F H0 G ρ σ H w α) (b : Bk K cl G H w α G' H' w' α') : Nok K cl F H0 G' ρ σ H' w' α' := by
  have sh := s.hide
  have s1 := (sh.gx' b.gx).handles b.n b.al
  have no : ∀ p, dom α' w' p → H0 p = none := fun p hp => by
    cases e : H0 p with
    | none => rfl
    | some u =>
      have := sh.gx.h p u e
      rw [b.new p hp] at this; cases this
  refine Nok.show s1 ⟨b.ww.inj, b.ww.obj, b.ww.g, fun p hp => ?_, no, fun p hp i vs e => ?_⟩
  · cases e : F.b p with
    | none => rfl
    | some u =>
      have := sh.base p u e
      rw [no p hp] at this; cases this
  · have := sh.wf i p vs e
    rw [no p hp] at this; cases this
end
end DV

namespace DV
open PySem L2 PySem.Spec PyProof.Rows
/-! ### expressions, tests, arguments, over the world -/
abbrev ME := Rho → Wd → Option (PyData × Wd)
abbrev MB := Rho → Wd → Option (Bool × Wd)
abbrev MR := Rho → Wd → Option (Nat × Wd)
abbrev MA := Rho → Wd → Option (List WV × Wd)
abbrev MO := Rho → Wd → Option (Option Int × Wd)
def RN (K : PySem.W.Frag) (m : Md) (Hs : Hp) (w : Wd) (α : Pl) (G H : Hp) (d : PyData) (v : V) : Prop := RM K (fun _ => none) Hs m G H d v ∧ (m = .new → ∀ p, v = .ref p → ¬ dom α w p)
def MN (m : Md) : Prop := m = .val ∨ m = .new
section
variable {K : PySem.W.Frag} {cl : Str → Addr} {F : Fr} {H0 Hs G H G' H' H1 : Hp} {ρ : Rho} {σ : L2.St} {w w' : Wd} {α α' : Pl} {d : PyData} {v : V} {m : Md}
theorem RN.val (h : Rep K G d v) : RN K .val Hs w α G H d v := ⟨h, fun z => by cases z⟩
theorem RN.of (hm : MN m) (W : WOk K cl F H0 G' Hs α w) (h : RM K H1 Hs m G H d v) : RN K m Hs w α G H d v := by
  rcases hm with rfl | rfl
  · exact .val h
  · refine ⟨h, fun _ p e z => ?_⟩
    obtain ⟨p', e1, n, _⟩ := h
    rw [e] at e1; cases e1
    obtain ⟨u, hu, _⟩ := W.there z
    rw [n] at hu; cases hu
theorem RN.start (hm : MN m) (e : ∀ p, Hs p = none → H1 p = none) (h : RN K m Hs w α G H d v) : RN K m H1 w α G H d v := by
  rcases hm with rfl | rfl
  · exact .val h.1
  · obtain ⟨⟨p, e1, n, g, o⟩, q⟩ := h
    exact ⟨⟨p, e1, e p n, g, o⟩, q⟩
end
def tM (K : PySem.W.Frag) (cl : Str → Addr) (m : Md) (f : ME) : TE := fun σ H Q => ∃ F H0 G ρ w α d w', Nok K cl F H0 G ρ σ H w α ∧ f ρ w = some (d, w') ∧ ∀ G' H' α' v, Nx G H w α G' H' w' α' → Nok K cl F H0 G' ρ σ H' w' α' → RN K m H w' α' G' H' d v → Q v H'
def tR (K : PySem.W.Frag) (cl : Str → Addr) (f : MR) : TE := fun σ H Q => ∃ F H0 G ρ w α h w', Nok K cl F H0 G ρ σ H w α ∧ f ρ w = some (h, w') ∧ ∀ G' H' α', Nx G H w α G' H' w' α' → Nok K cl F H0 G' ρ σ H' w' α' → h < w'.length → Q (.ref (α'.a h)) H'
def tTM (K : PySem.W.Frag) (cl : Str → Addr) (f : MB) : TT := fun σ H Q => ∃ F H0 G ρ w α d w', Nok K cl F H0 G ρ σ H w α ∧ f ρ w = some (d, w') ∧ ∀ G' H' α', Nx G H w α G' H' w' α' → Nok K cl F H0 G' ρ σ H' w' α' → Q d H'
def tOM (K : PySem.W.Frag) (cl : Str → Addr) (f : MO) : TO := fun σ H Q => ∃ F H0 G ρ w α d w', Nok K cl F H0 G ρ σ H w α ∧ f ρ w = some (d, w') ∧ ∀ G' H' α', Nx G H w α G' H' w' α' → Nok K cl F H0 G' ρ σ H' w' α' → Q d H'
structure DM (cl : Str → Addr) (X : Cx) (m : Md) (e : Expr) (f : ME) : Prop where
  pe : PE X e (tM X.K cl m f)
structure DR (cl : Str → Addr) (X : Cx) (e : Expr) (f : MR) : Prop where
  pe : PE X e (tR X.K cl f)
structure DTM (cl : Str → Addr) (X : Cx) (e : Expr) (f : MB) : Prop where
  pt : PT X e (tTM X.K cl f)
structure DWM (cl : Str → Addr) (X : Cx) (e : Expr) (f : MB) : Prop where
  pw : PW X e (tTM X.K cl f)
structure DOM (cl : Str → Addr) (X : Cx) (e : Option Expr) (f : MO) : Prop where
  po : PO X e (tOM X.K cl f)
/-! the pure layer within -/
def mL (f : SE) : ME := fun ρ w => (f ρ).map fun d => (d, w)
def mLB (f : SB) : MB := fun ρ w => (f ρ).map fun d => (d, w)
def mLO (f : SO) : MO := fun ρ w => (f ρ).map fun d => (d, w)
section
variable {cl : Str → Addr} {X : Cx} {rm m : Md} {a b c e tg : Expr} {f g h : SE} {t u : SB} {pos p1 apos : Pos} {k : Nat} {x : Str}
theorem m_l (h : DX X m e f) (hm : MN m := by first | exact .inl rfl | exact .inr rfl) : DM cl X m e (mL f) :=
  ⟨h.pe.imp fun σ H Q ⟨F, H0, G, ρ, w, α, d, w', s, e, q⟩ => by
    obtain ⟨d', e1, e2⟩ := map_some e
    cases e2
    exact ⟨_, _, G, ρ, d, s.sok, e1, fun G' H' v gx rr => q G' H' α v (.gx gx) (s.gx' gx) (.of hm s.ww rr)⟩⟩
theorem mt_l (h : DT X e t) : DTM cl X e (mLB t) :=
  ⟨h.pt.imp fun σ H Q ⟨F, H0, G, ρ, w, α, d, w', s, e, q⟩ => by
    obtain ⟨d', e1, e2⟩ := map_some e
    cases e2
    exact ⟨_, _, G, ρ, d, s.sok, e1, fun G' H' gx => q G' H' α (.gx gx) (s.gx' gx)⟩⟩
theorem mo_l {e : Option Expr} {f : SO} (h : DO X e f) : DOM cl X e (mLO f) :=
  ⟨h.po.imp fun σ H Q ⟨F, H0, G, ρ, w, α, d, w', s, e, q⟩ => by
    obtain ⟨d', e1, e2⟩ := map_some e
    cases e2
    exact ⟨_, _, G, ρ, d, s.sok, e1, fun G' H' gx => q G' H' α (.gx gx) (s.gx' gx)⟩⟩
/-- what is never reached -/
def mNever : ME := fun _ _ => none
/-- a new thing goes over to G -/
theorem Nok.put {K : PySem.W.Frag} {cl : Str → Addr} {F : Fr} {H0 G H : Hp} {ρ : Rho} {σ : L2.St} {w : Wd} {α : Pl} {p : Addr} {u : HO} (s : Nok K cl F H0 G ρ σ H w α) (hw : ¬ dom α w p) (g : G p = none) (n0 : putW H0 (dom α w) H p = none)
    (no : ∀ (i : Nat) (d : PyData), ρ[i]? = some (Slot.own d) → σ[i]? ≠ some (some (V.ref p))) : Nok K cl F H0 (upd G p u) ρ σ (upd H p u) w α ∧ Ex G (upd G p u) := by
  have gx := s.sok.gx.put (u := u) n0 g
  have ep : putW H0 (dom α w) (upd H p u) = putW H0 (dom α w) H := by
    funext q
    by_cases z : dom α w q
    · rw [putW_in z, putW_in z, upd_ne fun e => hw (by rw [← e]; exact z)]
    · rw [putW_out z, putW_out z]
  refine ⟨⟨⟨by rw [ep]; exact gx, s.sok.len, fun i t ht => ?_, s.sok.apart, fun i d hi => (s.sok.pins i d hi).imp fun a h => h.imp fun vs h => h.imp fun ds ⟨p1, p2, p3, p4⟩ => ⟨p1, p2, p3, p4.mono (Ex.new g)⟩, by rw [ep]; exact s.sok.base, by rw [ep]; exact s.sok.wf⟩,
    ⟨s.ww.inj, fun h o e => (s.ww.obj h o e).mono (Ex.new g) (Nat.le_refl _) (.refl _ _) (lt_of e) (fun hg => upd_ne fun z => hw (by rw [← z]; exact dom_a e hg)) fun hi => upd_ne fun z => hw (by rw [← z]; exact dom_x e hi), fun q hq => ?_, s.ww.b, s.ww.h, s.ww.p⟩⟩, Ex.new g⟩
  · have q := s.sok.slot i t ht
    generalize e : σ[i]?.getD none = x at q
    rw [ep]
    cases q with
    | un => exact .un
    | val h => exact .val (h.mono (Ex.new g))
    | bor h => exact .bor (h.mono (Ex.new g) (Ex.refl _))
    | scr h => exact .scr h
    | pin => exact .pin
    | st h => exact .st h
    | @own d c h1 h2 h3 =>
      have ne : c ≠ p := fun z => no i d ht (by rw [getD_some e, z])
      refine .own h1 ?_ (h3.mono (Ex.new g) (upd_ne ne))
      rw [upd_ne ne]; exact h2
  · rw [upd_ne fun z => hw (by rw [← z]; exact hq)]; exact s.ww.g q hq
theorem Nok.base0 {K : PySem.W.Frag} {cl : Str → Addr} {F : Fr} {H0 G H : Hp} {ρ : Rho} {σ : L2.St} {w w1 : Wd} {α α1 : Pl} {p : Addr} (s : Nok K cl F H0 G ρ σ H w α) (np : H p = none) (wn : ¬ dom α1 w1 p) {Hx : Hp} : putW H0 (dom α1 w1) Hx p = none := by
  rw [putW_out wn]
  cases e2 : H0 p with
  | none => rfl
  | some u =>
    exfalso
    have wp : ¬ dom α w p := fun z => by
      obtain ⟨y, hy, _⟩ := s.ww.there z
      rw [np] at hy; cases hy
    have := s.sok.gx.h p u (by rw [putW_out wp]; exact e2)
    rw [np] at this; cases this
theorem Nok.noOwn {K : PySem.W.Frag} {cl : Str → Addr} {F : Fr} {H0 G H : Hp} {ρ : Rho} {σ : L2.St} {w : Wd} {α : Pl} {p : Addr} (s : Nok K cl F H0 G ρ σ H w α) (np : H p = none) : ∀ (i : Nat) (d : PyData), ρ[i]? = some (Slot.own d) → σ[i]? ≠ some (some (V.ref p)) := fun i d hi e => by
  obtain ⟨a, k1, _, _, k4⟩ := s.sok.own hi
  rw [e] at k1; cases k1
  obtain ⟨u, hu⟩ := k4.there
  rw [np] at hu; cases hu
theorem m_fz {fn : ME} (h : DM cl X .new e fn) : DM cl X .val e fn := ⟨(pe_fz h.pe).imp fun σ H Q ⟨F, H0, G, ρ, w, α, d, w', s, e, q⟩ => ⟨F, H0, G, ρ, w, α, d, w', s, e, fun G' H' α' v x s' rr => by
  obtain ⟨⟨p, rfl, n, g, o⟩, wn⟩ := rr
  have wn := wn rfl p rfl
  obtain ⟨u, hu, z⟩ := o.freeze g
  have no := s.noOwn n
  have n0 := s.base0 (Hx := H') n wn
  have wp : ¬ dom α w p := fun z => by
    obtain ⟨y, hy, _⟩ := s.ww.there z
    rw [n] at hy; cases hy
  have key : ∀ (G2 H2 : Hp) (c : HO), G2 = upd G' p c → (∀ q, q ≠ p → H2 q = H' q) → Ex G' G2 → Nx G H w α G2 H2 w' α' := fun G2 H2 c eg eh xg => by
    refine ⟨x.g.trans xg, fun q o hq => ?_, fun q h => (x.le q h).imp id xg.there, x.n, x.al, fun q hq => ?_⟩
    · have ne : q ≠ p := fun z => by
        subst z
        rw [hideW_out wp, n] at hq; cases hq
      have := x.h q o hq
      by_cases z : dom α' w' q
      · rw [hideW_in z] at this; cases this
      · rw [hideW_out z] at this ⊢; rw [eh q ne]; exact this
    · by_cases z : q = p
      · subst z
        rw [hideW_out wp, n]; exact .inr True.intro
      · rw [eg, upd_ne z] at hq
        exact x.nw q hq
  rcases z with z | ⟨mu, z⟩
  · obtain ⟨s2, eg⟩ := s'.put (u := u) wn g n0 no
    rw [upd_id hu] at s2
    exact .inl (q _ _ _ _ (key _ _ u rfl (fun _ _ => rfl) eg) s2 (.val z))
  · refine .inr ⟨p, u, hu, mu, fun od => ?_⟩
    obtain ⟨s2, eg⟩ := s'.put (u := .frz od u) wn g n0 no
    exact q _ _ _ _ (key _ _ (.frz od u) rfl (fun q ne => upd_ne ne) eg) s2 (.val (z od))⟩⟩
end
/-! ### operators -/
def mOp (F : PyData → PyData → Option PyData) (f g : ME) : ME := fun ρ w => (f ρ w).bind fun x => (g ρ x.2).bind fun y => (F x.1 y.1).map fun d => (d, y.2)
def mUn (F : PyData → Option PyData) (f : ME) : ME := fun ρ w => (f ρ w).bind fun x => (F x.1).map fun d => (d, x.2)
def mT (f : ME) : MB := fun ρ w => (f ρ w).bind fun x => (asB x.1).map fun b => (b, x.2)
def mV (f : ME) : MB := fun ρ w => (f ρ w).bind fun x => (truth x.1).map fun b => (b, x.2)
def mNot (f : MB) : MB := fun ρ w => (f ρ w).map fun x => (!x.1, x.2)
def mAndB (f g : MB) : MB := fun ρ w => (f ρ w).bind fun x => if x.1 = true then g ρ x.2 else some (false, x.2)
def mOrB (f g : MB) : MB := fun ρ w => (f ρ w).bind fun x => if x.1 = true then some (true, x.2) else g ρ x.2
def mIte (t : MB) (f g : ME) : ME := fun ρ w => (t ρ w).bind fun x => if x.1 = true then f ρ x.2 else g ρ x.2
section
variable {cl : Str → Addr} {X : Cx} {rm m : Md} {a b c e tg : Expr} {f g h : ME} {t u : MB} {pos p1 apos : Pos} {k : Nat} {x : Str}
theorem tTestM_of {t : TE} {f : ME} (wf : ∀ σ H Q, tM X.K cl .val f σ H Q → t σ H Q) : ∀ σ H Q, tTM X.K cl (mT f) σ H Q → tTest t σ H Q := fun σ H Q ⟨F, H0, G, ρ, w, α, d, w', s, e, q⟩ => by
  obtain ⟨⟨x, w1⟩, e1, e⟩ := bind_some e
  obtain ⟨b, hb, e3⟩ := map_some e
  cases e3
  refine wf σ H _ ⟨F, H0, G, ρ, w, α, x, w1, s, e1, fun G' H' α' v n s' r => ?_⟩
  have hx := asB_some hb
  subst hx
  cases (show Rep X.K G' (.bool d) v from r.1)
  exact ⟨d, rfl, q G' H' α' n s'⟩
theorem mt_val (ha : DM cl X .val a f) (he : ∀ whole, isTrue a X.env whole = (do let v ← whole; standAt a.pos; holding [v] (truthy v)) := by intro _; rfl) : DTM cl X a (mV f) :=
  ⟨(pt_truth ha.pe he).imp fun σ H Q ⟨F, H0, G, ρ, w, α, d, w', s, e, q⟩ => by
    obtain ⟨⟨x, w1⟩, e1, e⟩ := bind_some e
    obtain ⟨b, hb, e3⟩ := map_some e
    cases e3
    exact ⟨F, H0, G, ρ, w, α, x, w1, s, e1, fun G' H' α' v n s' r => ⟨d, truth_ok s'.gh (.val r.1) hb, q G' H' α' n s'⟩⟩⟩
theorem mt_not (ha : DTM cl X a t) : DTM cl X (.UnaryOp .Not a pos) (mNot t) :=
  ⟨(pt_not ha.pt).imp fun σ H Q ⟨F, H0, G, ρ, w, α, d, w', s, e, q⟩ => by
    obtain ⟨⟨x, w1⟩, e1, e3⟩ := map_some e
    cases e3
    exact ⟨F, H0, G, ρ, w, α, x, w1, s, e1, fun G' H' α' n s' => q G' H' α' n s'⟩⟩
variable {rest : List Expr}
theorem mw_and1 (ha : DTM cl X a t) : DWM cl X (.BoolOp .And [a] pos) t := ⟨pw_and1 ha.pt⟩
theorem mw_or1 (ha : DTM cl X a t) : DWM cl X (.BoolOp .Or [a] pos) t := ⟨pw_or1 ha.pt⟩
theorem mw_and (ha : DTM cl X a t) (hb : DWM cl X (.BoolOp .And (b :: rest) pos) u) : DWM cl X (.BoolOp .And (a :: b :: rest) pos) (mAndB t u) :=
  ⟨(pw_and ha.pt hb.pw).imp fun σ H Q ⟨F, H0, G, ρ, w, α, d, w', s, e, q⟩ => by
    obtain ⟨⟨x, w1⟩, e1, e⟩ := bind_some e
    refine ⟨F, H0, G, ρ, w, α, x, w1, s, e1, fun G' H' α' n s' => ?_⟩
    cases x with
    | true => exact iteT ⟨F, H0, G', ρ, w1, α', d, w', s', e, fun G2 H2 α2 n2 s2 => q G2 H2 α2 (n.trans n2) s2⟩
    | false =>
      cases e
      exact iteF (q G' H' α' n s')⟩
theorem mw_or (ha : DTM cl X a t) (hb : DWM cl X (.BoolOp .Or (b :: rest) pos) u) : DWM cl X (.BoolOp .Or (a :: b :: rest) pos) (mOrB t u) :=
  ⟨(pw_or ha.pt hb.pw).imp fun σ H Q ⟨F, H0, G, ρ, w, α, d, w', s, e, q⟩ => by
    obtain ⟨⟨x, w1⟩, e1, e⟩ := bind_some e
    refine ⟨F, H0, G, ρ, w, α, x, w1, s, e1, fun G' H' α' n s' => ?_⟩
    cases x with
    | false => exact iteF ⟨F, H0, G', ρ, w1, α', d, w', s', e, fun G2 H2 α2 n2 s2 => q G2 H2 α2 (n.trans n2) s2⟩
    | true =>
      cases e
      exact iteT (q G' H' α' n s')⟩
theorem mt_w (h : DWM cl X e t) : DTM cl X e t := ⟨h.pw.pt⟩
end
/-! ### arguments -/
inductive AK where
  | q | md (m : Md)
inductive RWs (K : PySem.W.Frag) (n : Nat) (α : Pl) (G B : Hp) : List AK → List WV → List V → Prop
  | nil : RWs K n α G B [] [] []
  | q {x : WV} {v : V} {ms : List AK} {ds : List WV} {vs : List V} : RepV K G α n x v → RWs K n α G B ms ds vs → RWs K n α G B (.q :: ms) (x :: ds) (v :: vs)
  | val {d : PyData} {v : V} {ms : List AK} {ds : List WV} {vs : List V} : Rep K G d v → RWs K n α G B ms ds vs → RWs K n α G B (.md .val :: ms) (.d d :: ds) (v :: vs)
  | bor {d : PyData} {v : V} {ms : List AK} {ds : List WV} {vs : List V} : RepB K G B d v → RWs K n α G B ms ds vs → RWs K n α G B (.md .bor :: ms) (.d d :: ds) (v :: vs)
  | scr {d : PyData} {v : V} {ms : List AK} {ds : List WV} {vs : List V} : RepS K B d v → RWs K n α G B ms ds vs → RWs K n α G B (.md .scr :: ms) (.d d :: ds) (v :: vs)
def unD : List WV → List PyData
  | [] => []
  | .d x :: r => x :: unD r
  | .r _ :: r => unD r
section
variable {K : PySem.W.Frag} {n n' : Nat} {α α' : Pl} {G B G' B' : Hp}
theorem RWs.mono (e : Ex G G') (e2 : Ex B B') (hn : n ≤ n') (l : Pl.Le n α α') : ∀ {ms : List AK} {ds : List WV} {vs : List V}, RWs K n α G B ms ds vs → RWs K n' α' G' B' ms ds vs
  | _, _, _, .nil => .nil
  | _, _, _, .q h t => .q (h.mono e hn l) (t.mono e e2 hn l)
  | _, _, _, .val h t => .val (h.mono e) (t.mono e e2 hn l)
  | _, _, _, .bor h t => .bor (h.mono e e2) (t.mono e e2 hn l)
  | _, _, _, .scr h t => .scr (h.mono e2) (t.mono e e2 hn l)
theorem RWs.len : ∀ {ms : List AK} {ds : List WV} {vs : List V}, RWs K n α G B ms ds vs → ds.length = ms.length ∧ vs.length = ms.length
  | _, _, _, .nil => ⟨rfl, rfl⟩
  | _, _, _, .q _ t => ⟨congrArg (· + 1) t.len.1, congrArg (· + 1) t.len.2⟩
  | _, _, _, .val _ t => ⟨congrArg (· + 1) t.len.1, congrArg (· + 1) t.len.2⟩
  | _, _, _, .bor _ t => ⟨congrArg (· + 1) t.len.1, congrArg (· + 1) t.len.2⟩
  | _, _, _, .scr _ t => ⟨congrArg (· + 1) t.len.1, congrArg (· + 1) t.len.2⟩
theorem RWs.vals : ∀ {ms : List AK} {ds : List WV} {vs : List V}, (∀ m ∈ ms, m = .md .val) → RWs K n α G B ms ds vs → RepA K G (unD ds) vs ∧ (unD ds).length = ms.length
  | _, _, _, _, .nil => ⟨.nil, rfl⟩
  | _, _, _, hq, .q _ _ => by cases hq _ List.mem_cons_self
  | _, _, _, hq, .val h t => by
    have z := RWs.vals (fun m hm => hq m (List.mem_cons_of_mem _ hm)) t
    exact ⟨.cons h z.1, congrArg (· + 1) z.2⟩
  | _, _, _, hq, .bor _ _ => by cases hq _ List.mem_cons_self
  | _, _, _, hq, .scr _ _ => by cases hq _ List.mem_cons_self
end
def tAM (K : PySem.W.Frag) (cl : Str → Addr) (ms : List AK) (f : MA) : TA := fun σ H Q => ∃ F H0 G ρ w α ds w', Nok K cl F H0 G ρ σ H w α ∧ f ρ w = some (ds, w') ∧ ∀ G' H' α' vs, Nx G H w α G' H' w' α' → Nok K cl F H0 G' ρ σ H' w' α' → RWs K w'.length α' G' (hideW H' (dom α' w')) ms ds vs → Q vs H'
structure DAM (cl : Str → Addr) (X : Cx) (ms : List AK) (es : List Expr) (f : MA) : Prop where
  pa : PA X es (tAM X.K cl ms f)
def maNil : MA := fun _ w => some ([], w)
def maD (f : ME) (r : MA) : MA := fun ρ w => (f ρ w).bind fun x => (r ρ x.2).map fun y => (.d x.1 :: y.1, y.2)
def maR (f : MR) (r : MA) : MA := fun ρ w => (f ρ w).bind fun x => (r ρ x.2).map fun y => (.r x.1 :: y.1, y.2)
/-- a handle by its name -/
def mSt (i : Nat) : MR := fun ρ w => match ρ[i]? with
  | some (.st h) => some (h, w)
  | _ => none
section
variable {cl : Str → Addr} {X : Cx} {rm m : Md} {a b c e tg : Expr} {es : List Expr} {ms : List AK} {f g h : ME} {r : MA} {t u : MB} {pos p p1 apos : Pos} {k : Nat} {x : Str}
theorem ma_nil : DAM cl X [] [] maNil := ⟨pa_nil.imp fun σ H Q ⟨F, H0, G, ρ, w, α, ds, w', s, e, q⟩ => by
  cases e
  exact q G H α [] .refl s .nil⟩
theorem ma_val (he : DM cl X .val e f) (hr : DAM cl X ms es r) (hs : starEach (e :: es) X.env = (false, eval e X.env) :: starEach es X.env := by rfl) : DAM cl X (.md .val :: ms) (e :: es) (maD f r) :=
  ⟨(pa_cons he.pe hr.pa hs).imp fun σ H Q ⟨F, H0, G, ρ, w, α, ds, w', s, e, q⟩ => by
    obtain ⟨⟨h, w1⟩, e1, e⟩ := bind_some e
    obtain ⟨⟨ds', w2⟩, e2, e3⟩ := map_some e
    cases e3
    exact ⟨F, H0, G, ρ, w, α, h, w1, s, e1, fun G1 H1 α1 v n1 s1 r1 => ⟨F, H0, G1, ρ, w1, α1, ds', w2, s1, e2, fun G' H' α' vs n s' ra => q G' H' α' (v :: vs) (n1.trans n) s' (.val (Rep.mono n.g r1.1) ra)⟩⟩⟩
theorem ma_valb (he : DM cl X .val e f) (hr : DAM cl X ms es r) (hs : starEach (e :: es) X.env = (false, eval e X.env) :: starEach es X.env := by rfl) : DAM cl X (.md .bor :: ms) (e :: es) (maD f r) :=
  ⟨(pa_cons he.pe hr.pa hs).imp fun σ H Q ⟨F, H0, G, ρ, w, α, ds, w', s, e, q⟩ => by
    obtain ⟨⟨h, w1⟩, e1, e⟩ := bind_some e
    obtain ⟨⟨ds', w2⟩, e2, e3⟩ := map_some e
    cases e3
    exact ⟨F, H0, G, ρ, w, α, h, w1, s, e1, fun G1 H1 α1 v n1 s1 r1 => ⟨F, H0, G1, ρ, w1, α1, ds', w2, s1, e2, fun G' H' α' vs n s' ra => q G' H' α' (v :: vs) (n1.trans n) s' (.bor (.val (Rep.mono n.g r1.1)) ra)⟩⟩⟩
/-- what an owner reads stays outside of the world -/
theorem hide_base {K : PySem.W.Frag} {cl : Str → Addr} {F : Fr} {H0 G H : Hp} {ρ : Rho} {σ : L2.St} {w : Wd} {α : Pl} (s : Nok K cl F H0 G ρ σ H w α) : Ex F.b (hideW H (dom α w)) := fun p o h => by
  have q := s.sok.gx.h p o (s.sok.base p o h)
  by_cases z : dom α w p
  · rw [s.ww.b p z] at h; cases h
  · rw [hideW_out z]; exact q
/-- a name as it is, lent -/
theorem bor_slot {K : PySem.W.Frag} {cl : Str → Addr} {F : Fr} {H0 G H : Hp} {ρ : Rho} {σ : L2.St} {w : Wd} {α : Pl} {i : Nat} {d : PyData} (s : Nok K cl F H0 G ρ σ H w α) (ed : eB i ρ = some d) : ∃ v, σ[i]? = some (some v) ∧ RepB K G (hideW H (dom α w)) d v := by
  unfold eB at ed
  cases e1 : ρ[i]? with
  | none => rw [e1] at ed; cases ed
  | some t =>
    rw [e1] at ed
    have h := s.sok.slot i t e1
    generalize e2 : σ[i]?.getD none = y at h
    cases t with
    | un => cases ed
    | val d' =>
      cases ed
      cases h with
      | val h => exact ⟨_, getD_some e2, .val h⟩
    | bor d' =>
      cases ed
      cases h with
      | bor h => exact ⟨_, getD_some e2, h.mono (Ex.refl _) (hide_base s)⟩
    | scr _ => cases ed
    | st _ => cases ed
    | own d' =>
      cases ed
      cases h with
      | @own _ a h1 h2 h3 =>
        have z : ¬ dom α w a := fun z => by
          obtain ⟨u, hu, _⟩ := s.ww.there z
          rw [putW_in z, hu] at h1; cases h1
        exact ⟨_, getD_some e2, (h3.mono (Ex.refl _) (hideW_out z)).bor⟩
    | pin d' =>
      cases ed
      obtain ⟨a, vs, ds, p1, p2, rfl, p4⟩ := s.sok.pins i _ e1
      refine ⟨_, p2, .lst ?_ p4⟩
      have := s.sok.gx.h _ _ (s.sok.wf _ _ _ p1)
      by_cases z : dom α w a
      · exact absurd p1 (s.ww.p a z i vs)
      · rw [hideW_out z]; exact this
theorem ma_bor (i : Nat) (hr : DAM cl X ms es r) (hN : X.N[i]? = some x := by rfl) (hv : Vis X.env.scope x := by first | exact Or.inl rfl | exact Or.inr (Or.inl rfl) | exact Or.inr (Or.inr rfl)) (hd : (x == ("__debug__" : Str)) = false := by decide)
    (hcd : (x == ("__classdict__" : Str)) = false := by decide) (hs : starEach (.Name x p :: es) X.env = (false, eval (.Name x p) X.env) :: starEach es X.env := by rfl) : DAM cl X (.md .bor :: ms) (.Name x p :: es) (maD (mL (eB i)) r) :=
  ⟨(pa_cons (pe_var hN hv hd hcd) hr.pa hs).imp fun σ H Q ⟨F, H0, G, ρ, w, α, ds, w', s, e, q⟩ => by
    obtain ⟨⟨h, w1⟩, e1, e⟩ := bind_some e
    obtain ⟨⟨ds', w2⟩, e2, e3⟩ := map_some e
    obtain ⟨d, ed, e4⟩ := map_some e1
    cases e3
    cases e4
    obtain ⟨v, e5, rb⟩ := bor_slot s ed
    exact ⟨v, e5, F, H0, G, ρ, w, α, ds', w2, s, e2, fun G' H' α' vs n s' ra => q G' H' α' (v :: vs) n s' (.bor (rb.mono n.g n.h) ra)⟩⟩
/-! ### displays, functions of the pure layer, built-ins -/
def mTup (r : MA) : ME := fun ρ w => (r ρ w).bind fun x => if (unD x.1).length ≤ sizeLine then some (.tuple (unD x.1), x.2) else none
def mLst (r : MA) : ME := fun ρ w => (r ρ w).bind fun x => if (unD x.1).length ≤ sizeLine then some (.list (unD x.1), x.2) else none
theorem m_lst (h : DAM cl X ms es r) (hm : ∀ m ∈ ms, m = .md .val) : DM cl X .new (.List es pos) (mLst r) :=
  ⟨(pe_lst h.pa).imp fun σ H Q ⟨F, H0, G, ρ, w, α, d, w', s, e, q⟩ => by
    obtain ⟨⟨ds, w1⟩, e1, e⟩ := bind_some e
    obtain ⟨hl, e⟩ := if_some e
    cases e
    refine ⟨F, H0, G, ρ, w, α, ds, w1, s, e1, fun G' H' α' vs n s' rr => ?_⟩
    have ra := (rr.vals hm).1
    refine ⟨by rw [← ra.len]; exact hl, fun p np => ?_⟩
    have gx := Gx.mine (o := .lst vs) s'.gh np
    refine q _ _ _ _ (n.trans (.gx gx)) (s'.gx' gx) ⟨⟨p, rfl, n.dom' s'.ww s'.gh np, s'.gh.back np, .lst upd_same ra⟩, fun _ p' e z => ?_⟩
    cases e
    obtain ⟨u, hu, _⟩ := s'.ww.there z
    rw [np] at hu; cases hu⟩
theorem av_nil : ∀ m ∈ ([] : List AK), m = .md .val := fun m hm => absurd hm List.not_mem_nil
theorem av_cons (h : ∀ m ∈ ms, m = .md .val) : ∀ m ∈ AK.md .val :: ms, m = .md .val := fun m hm => (List.mem_cons.mp hm).elim id (h m)
/-- a pure function of values that are made with effects -/
def mF (F : List PyData → Option PyData) (r : MA) : ME := fun ρ w => (r ρ w).bind fun x => (F (unD x.1)).map fun d => (d, x.2)
theorem RepA.bors {K : PySem.W.Frag} {G H : Hp} : ∀ {ds : List PyData} {vs : List V}, RepA K G ds vs → RepBA K G H ds vs
  | _, _, .nil => .nil
  | _, _, .cons h t => .cons (.val h) (RepA.bors t)
theorem callBM_of {rr : List V → Hp → VK → Prop} {Fn : List PyData → Option PyData} (hF : CallF X.K m rr Fn) (hms : ∀ k ∈ ms, k = .md .val) (hm : MN m) : ∀ σ H Q, tM X.K cl m (mF Fn r) σ H Q → tCB rr (tAM X.K cl ms r) σ H Q := fun σ H Q ⟨F, H0, G, ρ, w, α, d, w', s, e, q⟩ => by
  obtain ⟨⟨ds, w1⟩, e1, e⟩ := bind_some e
  obtain ⟨d', hd, e3⟩ := map_some e
  cases e3
  exact ⟨F, H0, G, ρ, w, α, ds, w1, s, e1, fun G' H' α' vs n s' ra => hF G' H' _ d vs Q s'.gh (RepA.bors (ra.vals hms).1) hd fun G2 H2 v gx2 r2 => q G2 H2 α' v (n.trans (.gx gx2)) (s'.gx' gx2) ((RN.of hm s'.ww (r2 (fun _ => none))).start hm fun p hp => n.dom' s'.ww s'.gh hp)⟩
theorem m_callB {rr : List V → Hp → VK → Prop} {Fn : List PyData → Option PyData} {id : String} (hc : CallR X (.builtin id) rr) (hF : CallF X.K m rr Fn) (hms : ∀ k ∈ ms, k = .md .val) (hg : Gl X x) (hm : X.mg x = none) (hv : bootBuiltins x = some (.builtin id)) (ha : DAM cl X ms (e :: es) r) (hmn : MN m := by first | exact .inl rfl | exact .inr rfl) (hn : x ≠ "__name__" := by decide) (hdb : (x == ("__debug__" : Str)) = false := by decide)
    (he : starEach (e :: es) X.env = (false, eval e X.env) :: starEach es X.env := by rfl) (hpl : (backTo pos (starEach es X.env)).any (·.1) = false := by rfl) : DM cl X m (.Call (.Name x p) (e :: es) [] pos) (mF Fn r) :=
  ⟨(pe_callB hc hg hm hv ha.pa hn hdb he hpl).imp (callBM_of hF hms hmn)⟩
theorem m_callTy {rr : List V → Hp → VK → Prop} {Fn : List PyData → Option PyData} {T : String} (hc : CallR X (.type T) rr) (hF : CallF X.K m rr Fn) (hms : ∀ k ∈ ms, k = .md .val) (hg : Gl X x) (hm : X.mg x = none) (hv : bootBuiltins x = some (.type T)) (ha : DAM cl X ms (e :: es) r) (hmn : MN m := by first | exact .inl rfl | exact .inr rfl) (hn : x ≠ "__name__" := by decide) (hdb : (x == ("__debug__" : Str)) = false := by decide)
    (he : starEach (e :: es) X.env = (false, eval e X.env) :: starEach es X.env := by rfl) (hpl : (backTo pos (starEach es X.env)).any (·.1) = false := by rfl) : DM cl X m (.Call (.Name x p) (e :: es) [] pos) (mF Fn r) :=
  ⟨(pe_callTy hc hg hm hv ha.pa hn hdb he hpl).imp (callBM_of hF hms hmn)⟩
end
end DV

namespace DV
open PySem L2 PySem.Spec PyProof.Rows
/-! ### values of either kind -/
abbrev MQ := Rho → Wd → Option (WV × Wd)
def tQ (K : PySem.W.Frag) (cl : Str → Addr) (f : MQ) : TE := fun σ H Q => ∃ F H0 G ρ w α x w', Nok K cl F H0 G ρ σ H w α ∧ f ρ w = some (x, w') ∧ ∀ G' H' α' v, Nx G H w α G' H' w' α' → Nok K cl F H0 G' ρ σ H' w' α' → RepV K G' α' w'.length x v → Q v H'
structure DQ (cl : Str → Addr) (X : Cx) (e : Expr) (f : MQ) : Prop where
  pe : PE X e (tQ X.K cl f)
def mQ (f : ME) : MQ := fun ρ w => (f ρ w).map fun x => (.d x.1, x.2)
def mQR (f : MR) : MQ := fun ρ w => (f ρ w).map fun x => (.r x.1, x.2)
def mD (f : MQ) : ME := fun ρ w => (f ρ w).bind fun x => match x.1 with
  | .d d => some (d, x.2)
  | .r _ => none
def mR (f : MQ) : MR := fun ρ w => (f ρ w).bind fun x => match x.1 with
  | .d _ => none
  | .r h => some (h, x.2)
def mVar (i : Nat) : MQ := fun ρ w => match ρ[i]? with
  | some (.val d) => some (.d d, w)
  | some (.st h) => some (.r h, w)
  | _ => none
section
variable {cl : Str → Addr} {X : Cx} {e : Expr} {f : ME} {fr : MR} {fq : MQ} {p : Pos} {x : Str}
theorem q_m (h : DM cl X .val e f) : DQ cl X e (mQ f) := ⟨h.pe.imp fun σ H Q ⟨F, H0, G, ρ, w, α, x, w', s, e, q⟩ => by
  obtain ⟨⟨d, w1⟩, e1, e2⟩ := map_some e
  cases e2
  exact ⟨F, H0, G, ρ, w, α, d, w1, s, e1, fun G' H' α' v n s' r => q G' H' α' v n s' (.d r.1)⟩⟩
theorem q_r (h : DR cl X e fr) : DQ cl X e (mQR fr) := ⟨h.pe.imp fun σ H Q ⟨F, H0, G, ρ, w, α, x, w', s, e, q⟩ => by
  obtain ⟨⟨d, w1⟩, e1, e2⟩ := map_some e
  cases e2
  exact ⟨F, H0, G, ρ, w, α, d, w1, s, e1, fun G' H' α' n s' r => q G' H' α' _ n s' (.r r)⟩⟩
theorem m_q (h : DQ cl X e fq) : DM cl X .val e (mD fq) := ⟨h.pe.imp fun σ H Q ⟨F, H0, G, ρ, w, α, x, w', s, e, q⟩ => by
  obtain ⟨⟨d, w1⟩, e1, e2⟩ := bind_some e
  cases d with
  | d d =>
    cases e2
    refine ⟨F, H0, G, ρ, w, α, _, w1, s, e1, fun G' H' α' v n s' r => ?_⟩
    cases r with
    | d r => exact q G' H' α' v n s' (.val r)
  | r h => cases e2⟩
theorem r_q (h : DQ cl X e fq) : DR cl X e (mR fq) := ⟨h.pe.imp fun σ H Q ⟨F, H0, G, ρ, w, α, x, w', s, e, q⟩ => by
  obtain ⟨⟨d, w1⟩, e1, e2⟩ := bind_some e
  cases d with
  | d d => cases e2
  | r h =>
    cases e2
    refine ⟨F, H0, G, ρ, w, α, _, w1, s, e1, fun G' H' α' v n s' r => ?_⟩
    cases r with
    | r r => exact q G' H' α' n s' r⟩
theorem q_var (i : Nat) (hN : X.N[i]? = some x := by rfl) (hv : Vis X.env.scope x := by first | exact Or.inl rfl | exact Or.inr (Or.inl rfl) | exact Or.inr (Or.inr rfl)) (hd : (x == ("__debug__" : Str)) = false := by decide)
    (hcd : (x == ("__classdict__" : Str)) = false := by decide) : DQ cl X (.Name x p) (mVar i) :=
  ⟨(pe_var hN hv hd hcd).imp fun σ H Q ⟨F, H0, G, ρ, w, α, h, w', s, e, q⟩ => by
    unfold mVar at e
    split at e
    · rename_i a hh
      cases e
      have z := s.sok.slot i _ hh
      generalize e2 : σ[i]?.getD none = y at z
      cases z with
      | val r => exact ⟨_, getD_some e2, q G H α _ .refl s (.d r)⟩
    · rename_i a hh
      cases e
      have z := s.sok.slot i _ hh
      generalize e2 : σ[i]?.getD none = y at z
      cases z with
      | @st _ a' ha =>
        obtain ⟨h1, h2⟩ := ha
        subst h2
        exact ⟨_, getD_some e2, q G H α _ .refl s (.r h1)⟩
    · cases e⟩
/-- any argument -/
def maQ (f : MQ) (r : MA) : MA := fun ρ w => (f ρ w).bind fun x => (r ρ x.2).map fun y => (x.1 :: y.1, y.2)
theorem ma_q {ms : List AK} {es : List Expr} {r : MA} (he : DQ cl X e fq) (hr : DAM cl X ms es r) (hs : starEach (e :: es) X.env = (false, eval e X.env) :: starEach es X.env := by rfl) : DAM cl X (.q :: ms) (e :: es) (maQ fq r) :=
  ⟨(pa_cons he.pe hr.pa hs).imp fun σ H Q ⟨F, H0, G, ρ, w, α, ds, w', s, e, q⟩ => by
    obtain ⟨⟨h, w1⟩, e1, e⟩ := bind_some e
    obtain ⟨⟨ds', w2⟩, e2, e3⟩ := map_some e
    cases e3
    exact ⟨F, H0, G, ρ, w, α, h, w1, s, e1, fun G1 H1 α1 v n1 s1 r1 => ⟨F, H0, G1, ρ, w1, α1, ds', w2, s1, e2, fun G' H' α' vs n s' ra => q G' H' α' (v :: vs) (n1.trans n) s' (.q (r1.mono n.g n.n n.al) ra)⟩⟩⟩
end
/-! ### statements over the world -/
inductive OW where
  | nx (ρ : Rho) | bk (ρ : Rho) | ct (ρ : Rho) | rt (x : WV)
abbrev MS := Rho → Wd → Option (OW × Wd)
inductive RK where
  | md (m : Md) | any
def RV (K : PySem.W.Frag) : RK → Hp → Wd → Pl → Hp → Hp → WV → V → Prop
  | .md m, Hs, w, α, G, H, .d d, v => RN K m Hs w α G H d v
  | .any, _, w, α, G, _, x, v => RepV K G α w.length x v
  | _, _, _, _, _, _, _, _ => False
structure Wx (G : Hp) (w : Wd) (α : Pl) (G' : Hp) (w' : Wd) (α' : Pl) : Prop where
  g : Ex G G'
  le : ∀ p, dom α w p → dom α' w' p ∨ G' p ≠ none
  n : w.length ≤ w'.length
  al : Pl.Le w.length α α'
theorem Wx.refl {G : Hp} {w : Wd} {α : Pl} : Wx G w α G w α := ⟨Ex.refl _, fun _ h => .inl h, Nat.le_refl _, .refl _ _⟩
theorem Wx.ex {G G' : Hp} {w : Wd} {α : Pl} (e : Ex G G') : Wx G w α G' w α := ⟨e, fun _ h => .inl h, Nat.le_refl _, .refl _ _⟩
theorem Wx.trans {G G1 G2 : Hp} {w w1 w2 : Wd} {α α1 α2 : Pl} (a : Wx G w α G1 w1 α1) (b : Wx G1 w1 α1 G2 w2 α2) : Wx G w α G2 w2 α2 :=
  ⟨a.g.trans b.g, fun p h => (a.le p h).elim (b.le p) fun z => .inr (b.g.there z), Nat.le_trans a.n b.n, a.al.trans a.n b.al⟩
theorem Nx.wx {G H G' H' : Hp} {w w' : Wd} {α α' : Pl} (a : Nx G H w α G' H' w' α') : Wx G w α G' w' α' := ⟨a.g, a.le, a.n, a.al⟩
def OutM (K : PySem.W.Frag) (cl : Str → Addr) (rk : RK) (F : Fr) (H0 G : Hp) (w : Wd) (α : Pl) (D : Ends) : OW → Wd → Prop
  | .nx ρ', w' => ∀ G' σ' H' α', Wx G w α G' w' α' → Nok K cl F H0 G' ρ' σ' H' w' α' → D.nx σ' H'
  | .bk ρ', w' => ∀ G' σ' H' α', Wx G w α G' w' α' → Nok K cl F H0 G' ρ' σ' H' w' α' → D.bk σ' H'
  | .ct ρ', w' => ∀ G' σ' H' α', Wx G w α G' w' α' → Nok K cl F H0 G' ρ' σ' H' w' α' → D.ct σ' H'
  | .rt x, w' => ∀ G' H' α' v, Wx G w α G' w' α' → WOk K cl F H0 G' H' α' w' → Gx F.g (putW H0 (dom α' w') H') G' H' → RV K rk H0 w' α' G' H' x v → D.rt v H'
def tSM (K : PySem.W.Frag) (cl : Str → Addr) (rk : RK) (f : MS) : TS := fun D σ H => ∃ F H0 G ρ w α o w', Nok K cl F H0 G ρ σ H w α ∧ f ρ w = some (o, w') ∧ OutM K cl rk F H0 G w α D o w'
structure DSM (cl : Str → Addr) (X : Cx) (rk : RK) (st : Stmt) (f : MS) : Prop where
  ps : PS X st (tSM X.K cl rk f)
structure DBM (cl : Str → Addr) (X : Cx) (rk : RK) (st : List Stmt) (f : MS) : Prop where
  pss : PSs X st (tSM X.K cl rk f)
theorem OutM.grow {K : PySem.W.Frag} {cl : Str → Addr} {rk : RK} {F : Fr} {H0 G G1 : Hp} {w w1 w' : Wd} {α α1 : Pl} {D : Ends} {o : OW} (l : Wx G w α G1 w1 α1) (h : OutM K cl rk F H0 G w α D o w') : OutM K cl rk F H0 G1 w1 α1 D o w' := by
  cases o with
  | nx ρ => exact fun G' σ' H' α' l2 s => h G' σ' H' α' (l.trans l2) s
  | bk ρ => exact fun G' σ' H' α' l2 s => h G' σ' H' α' (l.trans l2) s
  | ct ρ => exact fun G' σ' H' α' l2 s => h G' σ' H' α' (l.trans l2) s
  | rt d => exact fun G' H' α' v l2 => h G' H' α' v (l.trans l2)
/-- a pure statement that does not return -/
def mS (f : SS) : MS := fun ρ w => match f ρ with
  | some (.nx ρ') => some (.nx ρ', w)
  | some (.bk ρ') => some (.bk ρ', w)
  | some (.ct ρ') => some (.ct ρ', w)
  | _ => none
def mNext : MS := fun ρ w => some (.nx ρ, w)
def mSeq (f g : MS) : MS := fun ρ w => (f ρ w).bind fun o => match o.1 with
  | .nx ρ' => g ρ' o.2
  | _ => some o
def mIf (t : MB) (f g : MS) : MS := fun ρ w => (t ρ w).bind fun x => if x.1 = true then f ρ x.2 else g ρ x.2
def mSet (i : Nat) (f : ME) : MS := fun ρ w => (f ρ w).bind fun x => if i < ρ.length then some (.nx (ρ.set i (.val x.1)), x.2) else none
def mOwn (i : Nat) (f : ME) : MS := fun ρ w => (f ρ w).bind fun x => if i < ρ.length then some (.nx (ρ.set i (.own x.1)), x.2) else none
def mPut (i : Nat) (f : MR) : MS := fun ρ w => (f ρ w).bind fun x => if i < ρ.length then some (.nx (ρ.set i (.st x.1)), x.2) else none
def slotV : WV → Slot
  | .d d => .val d
  | .r h => .st h
def mAny (i : Nat) (f : MQ) : MS := fun ρ w => (f ρ w).bind fun x => if i < ρ.length then some (.nx (ρ.set i (slotV x.1)), x.2) else none
def mAsg (f : ME) (g : SG) : MS := fun ρ w => (f ρ w).bind fun x => (g x.1 ρ).map fun ρ' => (.nx ρ', x.2)
def mExpr (f : ME) : MS := fun ρ w => (f ρ w).map fun x => (.nx ρ, x.2)
def mExprQ (f : MQ) : MS := fun ρ w => (f ρ w).map fun x => (.nx ρ, x.2)
def mRet (f : ME) : MS := fun ρ w => (f ρ w).map fun x => (.rt (.d x.1), x.2)
def mRetQ (f : MQ) : MS := fun ρ w => (f ρ w).map fun x => (.rt x.1, x.2)
def mRetOwn (i : Nat) : MS := fun ρ w => match ρ[i]? with
  | some (.own d) => some (.rt (.d d), w)
  | _ => none
def mRetN : MS := fun _ w => some (.rt (.d .none), w)
/-- never reached -/
def mDead : MS := fun _ _ => none
section
variable {K : PySem.W.Frag} {cl : Str → Addr} {F : Fr} {H0 G H G' H' : Hp} {ρ ρ' : Rho} {σ σ' : L2.St} {w w' : Wd} {α α' : Pl}
theorem Nok.setVal {i : Nat} {d : PyData} {v : V} (s : Nok K cl F H0 G ρ σ H w α) (hi : i < ρ.length) (h : Rep K G d v) : Nok K cl F H0 G (ρ.set i (.val d)) (σ.set i (some v)) H w α := ⟨s.sok.setVal hi h, s.ww⟩
theorem Nok.setSt {i h : Nat} (s : Nok K cl F H0 G ρ σ H w α) (hi : i < ρ.length) (hh : h < w.length) : Nok K cl F H0 G (ρ.set i (.st h)) (σ.set i (some (.ref (α.a h)))) H w α :=
  ⟨s.sok.put hi (.st ⟨hh, rfl⟩) (fun d a e => by cases e), s.ww⟩
theorem Nok.setV {i : Nat} {x : WV} {v : V} (s : Nok K cl F H0 G ρ σ H w α) (hi : i < ρ.length) (h : RepV K G α w.length x v) : Nok K cl F H0 G (ρ.set i (slotV x)) (σ.set i (some v)) H w α := by
  cases h with
  | d h => exact s.setVal hi h
  | r h => exact s.setSt hi h
end
section
variable {cl : Str → Addr} {X : Cx} {rk : RK} {m : Md} {st : Stmt} {rest b1 b2 : List Stmt} {fs : SS} {f g : MS} {e c tg : Expr} {fe : ME} {fq : MQ} {fr : MR} {t : MB} {pos pos' : Pos} {x : Str}
theorem mS_of {K : PySem.W.Frag} {rm : Md} : ∀ D σ H, tSM K cl rk (mS fs) D σ H → tS K rm fs D σ H := fun D σ H ⟨F, H0, G, ρ, w, α, o, w', s, e, q⟩ => by
  unfold mS at e
  split at e
  · rename_i ρ' h
    cases e
    exact ⟨_, _, G, ρ, _, s.sok, h, fun G' σ' H' eg s' => q G' σ' H' α (.ex eg) (s.sok' eg s')⟩
  · rename_i ρ' h
    cases e
    exact ⟨_, _, G, ρ, _, s.sok, h, fun G' σ' H' eg s' => q G' σ' H' α (.ex eg) (s.sok' eg s')⟩
  · rename_i ρ' h
    cases e
    exact ⟨_, _, G, ρ, _, s.sok, h, fun G' σ' H' eg s' => q G' σ' H' α (.ex eg) (s.sok' eg s')⟩
  · cases e
theorem ms_l (h : DS X .val st fs) : DSM cl X rk st (mS fs) := ⟨h.ps.imp mS_of⟩
theorem mb_nil : DBM cl X rk [] mNext := ⟨pss_nil.imp fun D σ H ⟨F, H0, G, ρ, w, α, o, w', s, e, q⟩ => by
  cases e
  exact q G σ H α .refl s⟩
theorem mb_cons (h1 : DSM cl X rk st f) (h2 : DBM cl X rk rest g) : DBM cl X rk (st :: rest) (mSeq f g) := ⟨(pss_cons h1.ps h2.pss).imp fun D σ H ⟨F, H0, G, ρ, w, α, o, w', s, e, q⟩ => by
  obtain ⟨⟨o1, w1⟩, e1, e⟩ := bind_some e
  refine ⟨F, H0, G, ρ, w, α, o1, w1, s, e1, ?_⟩
  cases o1 with
  | nx ρ' => exact fun G' σ' H' α' l s' => ⟨F, H0, G', ρ', w1, α', o, w', s', e, q.grow l⟩
  | bk ρ' => cases e; exact q
  | ct ρ' => cases e; exact q
  | rt d => cases e; exact q⟩
theorem mb_one (h1 : DSM cl X rk st f) : DBM cl X rk [st] f := ⟨pss_one h1.ps⟩
theorem ms_if (hc : DTM cl X c t) (h1 : DBM cl X rk b1 f) (h2 : DBM cl X rk b2 g) : DSM cl X rk (.If c b1 b2 pos) (mIf t f g) :=
  ⟨(ps_if hc.pt h1.pss h2.pss).imp fun D σ H ⟨F, H0, G, ρ, w, α, o, w', s, e, q⟩ => by
    obtain ⟨⟨b, w1⟩, e1, e⟩ := bind_some e
    refine ⟨F, H0, G, ρ, w, α, b, w1, s, e1, fun G' H' α' n s' => ?_⟩
    cases b with
    | true => exact iteT ⟨F, H0, G', ρ, w1, α', o, w', s', e, q.grow n.wx⟩
    | false => exact iteF ⟨F, H0, G', ρ, w1, α', o, w', s', e, q.grow n.wx⟩⟩
theorem ms_set (i : Nat) (hN : X.N.Nodup) (he : DM cl X .val e fe) (hi : X.N[i]? = some x := by rfl) (hx : Loc X.env.scope x := by first | exact Or.inl rfl | exact Or.inr rfl) (hs : swapsWith e (some (.Name x pos')) pos.line X.env = pure false := by rfl)
    (hf : X.fn x = true ∨ X.env.scope.names.lookup x = some .local := by first | exact .inl rfl | exact .inr rfl | assumption) : DSM cl X rk (.Assign [.Name x pos'] e pos) (mSet i fe) :=
  ⟨(ps_set hN hi hx he.pe hs hf).imp fun D σ H ⟨F, H0, G, ρ, w, α, o, w', s, e, q⟩ => by
    obtain ⟨⟨d, w1⟩, e1, e⟩ := bind_some e
    obtain ⟨hl, e⟩ := if_some e
    cases e
    exact ⟨F, H0, G, ρ, w, α, d, w1, s, e1, fun G' H' α' v n s' r => q G' _ H' α' n.wx (s'.setVal hl r.1)⟩⟩
theorem ms_any (i : Nat) (hN : X.N.Nodup) (he : DQ cl X e fq) (hi : X.N[i]? = some x := by rfl) (hx : Loc X.env.scope x := by first | exact Or.inl rfl | exact Or.inr rfl) (hs : swapsWith e (some (.Name x pos')) pos.line X.env = pure false := by rfl)
    (hf : X.fn x = true ∨ X.env.scope.names.lookup x = some .local := by first | exact .inl rfl | exact .inr rfl | assumption) : DSM cl X rk (.Assign [.Name x pos'] e pos) (mAny i fq) :=
  ⟨(ps_set hN hi hx he.pe hs hf).imp fun D σ H ⟨F, H0, G, ρ, w, α, o, w', s, e, q⟩ => by
    obtain ⟨⟨d, w1⟩, e1, e⟩ := bind_some e
    obtain ⟨hl, e⟩ := if_some e
    cases e
    exact ⟨F, H0, G, ρ, w, α, d, w1, s, e1, fun G' H' α' v n s' r => q G' _ H' α' n.wx (s'.setV hl r)⟩⟩
theorem tg_of {K : PySem.W.Frag} {F : Fr} {H0 G H : Hp} {ρ ρ' : Rho} {σ : L2.St} {w : Wd} {α : Pl} {gt : SG} {d : PyData} {v : V} (s : Nok K cl F H0 G ρ σ H w α) (r : Rep K G d v) (e : gt d ρ = some ρ') {Q : L2.St → Hp → Prop} (q : ∀ σ', Nok K cl F H0 G ρ' σ' H w α → Q σ' H) : tG K gt v σ H Q :=
  ⟨_, _, G, ρ, d, ρ', s.sok, r, e, fun σ' s2 => q σ' ⟨s2, s.ww⟩⟩
theorem ms_exprQ (he : DQ cl X e fq) (hs : swapsWith e none pos.line X.env = pure false := by rfl) : DSM cl X rk (.Expr e pos) (mExprQ fq) :=
  ⟨(ps_expr he.pe hs).imp fun D σ H ⟨F, H0, G, ρ, w, α, o, w', s, e, q⟩ => by
    obtain ⟨⟨d, w1⟩, e1, e3⟩ := map_some e
    cases e3
    exact ⟨F, H0, G, ρ, w, α, d, w1, s, e1, fun G' H' α' v n s' r => q G' σ H' α' n.wx s'⟩⟩
theorem ms_ret (he : DM cl X m e fe) (hm : MN m := by first | exact Or.inl rfl | exact Or.inr rfl) : DSM cl X (.md m) (.Return (some e) pos) (mRet fe) :=
  ⟨(ps_ret he.pe).imp fun D σ H ⟨F, H0, G, ρ, w, α, o, w', s, e, q⟩ => by
    obtain ⟨⟨d, w1⟩, e1, e3⟩ := map_some e
    cases e3
    exact ⟨F, H0, G, ρ, w, α, d, w1, s, e1, fun G' H' α' v n s' r => q G' H' α' v n.wx s'.ww s'.sok.gx (r.start hm fun p hp => s.h0 hp)⟩⟩
theorem ms_retQ (he : DQ cl X e fq) : DSM cl X .any (.Return (some e) pos) (mRetQ fq) :=
  ⟨(ps_ret he.pe).imp fun D σ H ⟨F, H0, G, ρ, w, α, o, w', s, e, q⟩ => by
    obtain ⟨⟨d, w1⟩, e1, e3⟩ := map_some e
    cases e3
    exact ⟨F, H0, G, ρ, w, α, d, w1, s, e1, fun G' H' α' v n s' r => q G' H' α' v n.wx s'.ww s'.sok.gx r⟩⟩
theorem Nok.own {K : PySem.W.Frag} {F : Fr} {H0 G H : Hp} {ρ : Rho} {σ : L2.St} {w : Wd} {α : Pl} {i : Nat} {d : PyData} (s : Nok K cl F H0 G ρ σ H w α) (h : ρ[i]? = some (.own d)) : ∃ a, σ[i]? = some (some (.ref a)) ∧ H0 a = none ∧ ¬ dom α w a ∧ G a = none ∧ Own K G H a d := by
  obtain ⟨a, h1, h2, h3, h4⟩ := s.sok.own h
  obtain ⟨u, hu⟩ := h4.there
  have z : ¬ dom α w a := fun z => by
    rw [putW_in z, hu] at h2; cases h2
  exact ⟨a, h1, by rw [putW_out z] at h2; exact h2, z, h3, h4⟩
/-! ### loops -/
def mForGo (g : SG) (b : MS) : List PyData → MS
  | [], ρ, w => some (.nx ρ, w)
  | d :: ds, ρ, w => (g d ρ).bind fun ρ1 => (b ρ1 w).bind fun o => match o.1 with
    | .nx ρ' => mForGo g b ds ρ' o.2
    | .ct ρ' => mForGo g b ds ρ' o.2
    | .bk ρ' => some (.nx ρ', o.2)
    | .rt d => some (.rt d, o.2)
abbrev MI := Rho → Wd → Option (List PyData × Wd)
def tIM (K : PySem.W.Frag) (cl : Str → Addr) (f : MI) : TI := fun σ H R => ∃ F H0 G ρ w α ds w', Nok K cl F H0 G ρ σ H w α ∧ f ρ w = some (ds, w') ∧ ∀ G' H' α' J, Nx G H w α G' H' w' α' → Nok K cl F H0 G' ρ σ H' w' α' → WalkD K F.b G' J ds → R J H'
structure DIM (cl : Str → Addr) (X : Cx) (tg iter : Expr) (f : MI) : Prop where
  pi : PI X tg iter (tIM X.K cl f)
def mSeqI (f : ME) : MI := fun ρ w => (f ρ w).bind fun x => (itemsOf x.1).map fun ds => (ds, x.2)
def mKeysI (f : ME) : MI := fun ρ w => (f ρ w).bind fun x => (keysOf x.1).map fun ds => (ds, x.2)
def mArgsI (F : List PyData → Option (List PyData)) (r : MA) : MI := fun ρ w => (r ρ w).bind fun x => (F (unD x.1)).map fun ds => (ds, x.2)
theorem Nok.fb {K : PySem.W.Frag} {F : Fr} {H0 G H : Hp} {ρ : Rho} {σ : L2.St} {w : Wd} {α : Pl} (s : Nok K cl F H0 G ρ σ H w α) : Ex F.b H := (hide_base s).trans hideW_le
theorem im_val (ha : DM cl X .val e fe) : DIM cl X tg e (mSeqI fe) := ⟨(pi_any ha.pe).imp fun σ H R ⟨F, H0, G, ρ, w, α, ds, w', s, e, q⟩ => by
  obtain ⟨⟨d, w1⟩, e1, e⟩ := bind_some e
  obtain ⟨ds, e2, e3⟩ := map_some e
  cases e3
  exact ⟨F, H0, G, ρ, w, α, d, w1, s, e1, fun G' H' α' v n s' r => any_of s'.gh s'.fb (.val r.1) e2 fun J wk => q G' H' α' J n s' wk⟩⟩
/-- over a parameter -/
def mPar (i : Nat) : ME := fun ρ w => match ρ[i]? with
  | some (.bor d) => some (d, w)
  | some (.val d) => some (d, w)
  | _ => none
theorem im_par (i : Nat) {p : Pos} (hN : X.N[i]? = some x := by rfl) (hv : Vis X.env.scope x := by first | exact Or.inl rfl | exact Or.inr (Or.inl rfl) | exact Or.inr (Or.inr rfl)) (hd : (x == ("__debug__" : Str)) = false := by decide)
    (hcd : (x == ("__classdict__" : Str)) = false := by decide) : DIM cl X tg (.Name x p) (mSeqI (mPar i)) := ⟨(pi_any (pe_var hN hv hd hcd)).imp fun σ H R ⟨F, H0, G, ρ, w, α, ds, w', s, e, q⟩ => by
  obtain ⟨⟨d, w1⟩, e1, e⟩ := bind_some e
  obtain ⟨ds, e2, e3⟩ := map_some e
  cases e3
  unfold mPar at e1
  split at e1
  · rename_i d' hh
    cases e1
    have z := s.sok.slot i _ hh
    generalize e4 : σ[i]?.getD none = y at z
    cases z with
    | bor r => exact ⟨_, getD_some e4, any_of s.gh s.fb r e2 fun J wk => q G H α J .refl s wk⟩
  · rename_i d' hh
    cases e1
    have z := s.sok.slot i _ hh
    generalize e4 : σ[i]?.getD none = y at z
    cases z with
    | val r => exact ⟨_, getD_some e4, any_of s.gh s.fb (.val r) e2 fun J wk => q G H α J .refl s wk⟩
  · cases e1⟩
variable {a b c2 : Expr} {r : MA} {p tpos : Pos} {elts : List Expr} {kk : Nat}
theorem im_range1 (hg : Gl X "range") (hm : X.mg "range" = none) (ha : DAM cl X [.md .val] [a] r) (hs : starEach [a] X.env = [(false, eval a X.env)] := by rfl) : DIM cl X tg (.Call (.Name "range" p) [a] [] pos) (mArgsI rng1 r) :=
  ⟨(pi_range1 hg hm ha.pa hs).imp fun σ H R ⟨F, H0, G, ρ, w, α, ds, w', s, e, q⟩ => by
    obtain ⟨⟨l, w1⟩, e1, e⟩ := bind_some e
    obtain ⟨ds, e2, e3⟩ := map_some e
    cases e3
    refine ⟨F, H0, G, ρ, w, α, l, w1, s, e1, fun G' H' α' vs n s' rr => ?_⟩
    cases rr with
    | val r1 t =>
      cases t
      unfold rng1 at e2
      split at e2
      · rename_i z
        cases z
        obtain ⟨⟨h1, h2⟩, rfl⟩ := if_some e2
        cases r1
        exact ⟨_, rfl, h1, h2, q G' H' α' _ n s' WalkD.range⟩
      · cases e2⟩
def mFor (fi : MI) (g : SG) (b : MS) : MS := fun ρ w => (fi ρ w).bind fun x => mForGo g b x.1 ρ x.2
theorem ms_for {iter : Expr} {body : List Stmt} {fi : MI} {gt : SG} (hp : PassesOwn (model X.prog X.w) X.A X.env X.xe) (hc : X.calm = true) (hi : DIM cl X tg iter fi) (hg : DG X tg gt) (hb : DBM cl X rk body f)
    (hs : ∀ x, foldedSetIterable iter X.env x = pure x := by intro _; rfl) : DSM cl X rk (.For tg iter body [] pos) (mFor fi gt f) :=
  ⟨(ps_for hp hc hi.pi hg.pg hb.pss hs).imp fun D σ H ⟨F, H0, G, ρ, w, α, o, w', s, e1, q⟩ => by
    obtain ⟨⟨ds, w1⟩, e0, e2⟩ := bind_some e1
    refine ⟨F, H0, G, ρ, w, α, ds, w1, s, e0, fun G1 H1 α1 J n1 s1 wk => ?_⟩
    let St (i : Nat) (σi : L2.St) (Hi : Hp) : Prop := ∃ Gi ρi wi αi, Wx G1 w1 α1 Gi wi αi ∧ Nok X.K cl F H0 Gi ρi σi Hi wi αi ∧ i ≤ ds.length ∧ mForGo gt f (ds.drop i) ρi wi = some (o, w')
    refine ⟨fun i m σi Hi => m = ds.length - i ∧ St i σi Hi, ⟨_, rfl, G1, ρ, w1, α1, .refl, s1, Nat.zero_le _, e2⟩, ?_⟩
    rintro i m σi Hi ⟨rfl, Gi, ρi, wi, αi, lw, si, hi, hr⟩
    have q := q.grow (n1.wx.trans lw)
    by_cases hlt : i < ds.length
    · refine .inr ⟨wk.goes i Gi Hi hlt lw.g si.gh si.fb, St (i + 1), fun σ' H' p => ⟨_, by omega, rfl, p⟩, fun y H' hy => ?_⟩
      have hd := List.getElem?_eq_getElem hlt
      obtain ⟨G3, gx3, rx⟩ := wk.yields i _ Gi Hi y H' hd lw.g si.gh si.fb hy
      rw [List.drop_eq_getElem_cons hlt] at hr
      obtain ⟨ρ1, e1, hr⟩ := bind_some hr
      obtain ⟨⟨o1, w2⟩, e3, hr⟩ := bind_some hr
      refine tg_of (si.gx' gx3) rx e1 fun σ2 s2 => ⟨F, H0, G3, ρ1, wi, αi, o1, w2, s2, e3, ?_⟩
      have l3 : Wx Gi wi αi G3 wi αi := .ex gx3.g
      have lw3 := lw.trans l3
      cases o1 with
      | nx ρ' => exact fun G' σ' H' α' l4 s4 => ⟨G', ρ', w2, α', lw3.trans l4, s4, hlt, hr⟩
      | ct ρ' => exact fun G' σ' H' α' l4 s4 => ⟨G', ρ', w2, α', lw3.trans l4, s4, hlt, hr⟩
      | bk ρ' =>
        cases hr
        exact fun G' σ' H' α' l4 s4 => q G' σ' H' α' (l3.trans l4) s4
      | rt d =>
        cases hr
        exact q.grow l3
    · have ei : i = ds.length := by omega
      subst ei
      rw [List.drop_length] at hr
      cases hr
      exact .inl ⟨wk.stops Gi Hi lw.g si.gh si.fb, q Gi σi Hi αi .refl si⟩⟩
def mWhileGo (t : MB) (b : MS) : Nat → MS
  | 0, _, _ => none
  | n + 1, ρ, w => (t ρ w).bind fun k => if k.1 = true then (b ρ k.2).bind fun o => match o.1 with
    | .nx ρ' => mWhileGo t b n ρ' o.2
    | .ct ρ' => mWhileGo t b n ρ' o.2
    | .bk ρ' => some (.nx ρ', o.2)
    | .rt d => some (.rt d, o.2)
    else some (.nx ρ, k.2)
def mWhile (n : Nat) (t : MB) (b : MS) : MS := mWhileGo t b n
end
end DV

namespace DV
open PySem L2 PySem.Spec PyProof.Rows
section
variable {K : PySem.W.Frag} {cl : Str → Addr} {F : Fr} {H0 G H G' H' : Hp} {ρ ρ' : Rho} {σ σ' : L2.St} {w w' : Wd} {α α' : Pl}
theorem Bk.of (n : Nx G H w α G' H' w' α') (W : WW K cl G' H' α' w') : Bk K cl G H w α G' H' w' α' := by
  refine ⟨⟨n.g, n.h, fun p o h => ?_, n.nw⟩, n.le, n.n, n.al, W, fun p hp => ?_⟩
  · have z : ¬ dom α' w' p := fun z => by rw [W.g p z] at h; cases h
    rw [hideW_out z]; exact W.gh p o h
  · cases e : hideW H (dom α w) p with
    | none => rfl
    | some o =>
      have := n.h p o e
      rw [hideW_in hp] at this; cases this
/-- a new thing that is no part of the world is written -/
theorem Nx.mut {D : Addr} {u : HO} (n : Nx G H w α G' H' w' α') (hD : H D = none) : Nx G H w α G' (upd H' D u) w' α' := by
  refine ⟨n.g, fun p o h => ?_, n.le, n.n, n.al, n.nw⟩
  have ne : p ≠ D := fun z => by
    subst z
    have := hideW_le p o h
    rw [hD] at this; cases this
  have := n.h p o h
  by_cases z : dom α' w' p
  · rw [hideW_in z] at this; cases this
  · rw [hideW_out z] at this ⊢
    rw [upd_ne ne]; exact this
theorem WW.mut {D : Addr} {u : HO} (W : WW K cl G H α w) (hD : G D = none) (hd : ¬ dom α w D) : WW K cl G (upd H D u) α w := by
  refine ⟨fun p o h => ?_, W.inj, fun h o e => ?_, W.g⟩
  · have ne : p ≠ D := fun z => by subst z; rw [hD] at h; cases h
    rw [upd_ne ne]; exact W.gh p o h
  · exact (W.obj h o e).mono (Ex.refl _) (Nat.le_refl _) (.refl _ _) (lt_of e) (fun hg => upd_ne fun z => hd (by rw [← z]; exact dom_a e hg)) fun hi => upd_ne fun z => hd (by rw [← z]; exact dom_x e hi)
theorem Nok.wipe (s : Nok K cl F H0 G ρ σ H w α) (vs : List Nat) : Nok K cl F H0 G (wipeR ρ vs) (L2.wipe σ vs) H w α := ⟨s.sok.wipe vs, s.ww⟩
end
/-! ### comprehensions with effects -/
structure DTMs (cl : Str → Addr) (X : Cx) (ifs : List Expr) (f : MB) : Prop where
  pts : PTs X ifs (tTM X.K cl f)
section
variable {cl : Str → Addr} {X : Cx} {c tg elt iter : Expr} {t : MB} {f : ME} {fi : MI} {g : SG} {pos : Pos} {ifs : List Expr} {scope : Scope} {own : List (Str × Nat)}
theorem mts_l {tb : SB} (h : DTs X ifs tb) : DTMs cl X ifs (mLB tb) :=
  ⟨h.pts.imp fun σ H Q ⟨F, H0, G, ρ, w, α, d, w', s, e, q⟩ => by
    obtain ⟨d', e1, e2⟩ := map_some e
    cases e2
    exact ⟨_, _, G, ρ, d, s.sok, e1, fun G' H' gx => q G' H' α (.gx gx) (s.gx' gx)⟩⟩
def mLcGo (g : SG) (t : MB) (e : ME) (ρ : Rho) : List PyData → Wd → Option (List PyData × Wd)
  | [], w => some ([], w)
  | d :: ds, w => (g d ρ).bind fun ρ1 => (t ρ1 w).bind fun k => if k.1 = true then (e ρ1 k.2).bind fun y => (mLcGo g t e ρ ds y.2).map fun z => (y.1 :: z.1, z.2) else mLcGo g t e ρ ds k.2
def mLc (fi : MI) (g : SG) (t : MB) (e : ME) (vs : List Nat) : ME := fun ρ w => (fi ρ w).bind fun x => (mLcGo g t e (wipeR ρ vs) x.1 x.2).bind fun y => if y.1.length ≤ sizeLine then some (.list y.1, y.2) else none
end
/-! ### defs over the world -/
def slotsW : List AK → List WV → Rho
  | .md .bor :: ms, .d d :: ds => .bor d :: slotsW ms ds
  | .md .scr :: ms, .d d :: ds => .scr d :: slotsW ms ds
  | _ :: ms, x :: ds => slotV x :: slotsW ms ds
  | _, _ => []
abbrev MF := List WV → Wd → Option (WV × Wd)
def endM (rk : RK) : OW → Option WV
  | .rt x => some x
  | .nx _ => match rk with
    | .md .val => some (.d .none)
    | .any => some (.d .none)
    | _ => none
  | _ => none
def runW (n : Nat) (rk : RK) (ms : List AK) (f : MS) : MF := fun ds w =>
  if ds.length = ms.length then (f (slotsW ms ds ++ List.replicate (n - ds.length) .un) w).bind fun o => (endM rk o.1).map fun x => (x, o.2) else none
def spW (K : PySem.W.Frag) (cl : Str → Addr) (rk : RK) (ms : List AK) (Fn : MF) : Sp := fun vs H Q _ =>
  vs.length = ms.length ∧ ∃ G w α ds x w', WW K cl G H α w ∧ RWs K w.length α G (hideW H (dom α w)) ms ds vs ∧ Fn ds w = some (x, w') ∧ ∀ G' H' α' v, Bk K cl G H w α G' H' w' α' → RV K rk (hideW H (dom α w)) w' α' G' H' x v → Q v H'
theorem slotsW_ok {K : PySem.W.Frag} {n : Nat} {α : Pl} {G B H0 H : Hp} : ∀ {ms : List AK} {ds : List WV} {vs : List V}, RWs K n α G B ms ds vs → (slotsW ms ds).length = vs.length ∧
    ∀ (i : Nat) (s : Slot), (slotsW ms ds)[i]? = some s → SlotOk K (fun h a => h < n ∧ a = α.a h) B H0 G H s ((vs.map some)[i]?.getD none) ∧ (∀ d, s ≠ .own d) ∧ ∀ d, s ≠ .pin d
  | _, _, _, .nil => ⟨rfl, fun i s h => by simp [slotsW] at h⟩
  | _, _, _, .q (x := x) h t => by
    obtain ⟨l, q⟩ := slotsW_ok t
    refine ⟨?_, fun i s hs => ?_⟩
    · cases x <;> exact congrArg (· + 1) l
    · cases h with
      | d h =>
        cases i with
        | zero => cases hs; exact ⟨.val h, ⟨fun d e => (by cases e), fun d e => (by cases e)⟩⟩
        | succ i => exact q i s hs
      | r h =>
        cases i with
        | zero => cases hs; exact ⟨.st ⟨h, rfl⟩, ⟨fun d e => (by cases e), fun d e => (by cases e)⟩⟩
        | succ i => exact q i s hs
  | _, _, _, .val h t => by
    obtain ⟨l, q⟩ := slotsW_ok t
    refine ⟨congrArg (· + 1) l, fun i s hs => ?_⟩
    cases i with
    | zero => cases hs; exact ⟨.val h, ⟨fun d e => (by cases e), fun d e => (by cases e)⟩⟩
    | succ i => exact q i s hs
  | _, _, _, .bor h t => by
    obtain ⟨l, q⟩ := slotsW_ok t
    refine ⟨congrArg (· + 1) l, fun i s hs => ?_⟩
    cases i with
    | zero => cases hs; exact ⟨.bor h, ⟨fun d e => (by cases e), fun d e => (by cases e)⟩⟩
    | succ i => exact q i s hs
  | _, _, _, .scr h t => by
    obtain ⟨l, q⟩ := slotsW_ok t
    refine ⟨congrArg (· + 1) l, fun i s hs => ?_⟩
    cases i with
    | zero => cases hs; exact ⟨.scr h, ⟨fun d e => (by cases e), fun d e => (by cases e)⟩⟩
    | succ i => exact q i s hs
theorem fn_okW {P : Program} {w : World} {K : PySem.W.Frag} {mg : Str → Option Value} {base : Heap} {cl : Str → Addr} {x qual : Str} {st : Stmt} {f : Addr} {fd : FuncData} {N ps : List Str} {k n : Nat} {ms : List AK} {rk : RK} {b : MS} (F : Fun K x qual st f fd) (S : FnScope N ps (defScope st))
    (hm : ms.length = ps.length) (hn : N.length = n)
    (body : ∀ (cdv : Value) (A : Around) (outer : List Env) (s : Shared) (H : Hp) (E : XK), Room k (A.deeper (PyProof.Rows.envOfC qual (defScope st) s.heap.objs.size f cdv)) → DBM cl (cxOf CX0 P w K mg base N qual (defScope st) f cdv A outer s H E).nox rk (defBody st) b) :
    FnOk P w K mg base CX0 (k + 1) f fd ps (spW K cl rk ms (runW n rk ms b)) := by
  subst hn
  refine F.ok S (fun vs H Q E h => h.1.trans hm) fun cdv A outer s H vs Q E hr h => ?_
  obtain ⟨hl, G, w0, α, ds, x0, w', W, ra, hF, q⟩ := h
  refine ⟨_, (body cdv A outer s H E hr).pss, ?_⟩
  have hpl : ps.length ≤ N.length := by have := congrArg List.length S.pre; rw [List.length_take] at this; omega
  obtain ⟨hl2, hF⟩ := ite_some hF
  obtain ⟨⟨o, w2⟩, e1, e2⟩ := bind_some hF
  obtain ⟨x1, e3, e4⟩ := map_some e2
  cases e4
  have dv : ds.length = vs.length := hl2.trans hl.symm
  have pe : putW (hideW H (dom α w0)) (dom α w0) H = H := by
    funext p
    by_cases z : dom α w0 p
    · rw [putW_in z]
    · rw [putW_out z, hideW_out z]
  have hG : Ex G (hideW H (dom α w0)) := fun p o h => by
    have z : ¬ dom α w0 p := fun z => by rw [W.g p z] at h; cases h
    rw [hideW_out z]; exact W.gh p o h
  obtain ⟨l1, so⟩ := slotsW_ok (H0 := H) (H := H) ra
  let Fr0 : Fr := ⟨G, hideW H (dom α w0), fun _ => none, fun _ _ => False⟩
  have WK : WOk K cl Fr0 (hideW H (dom α w0)) G H α w0 := ⟨W.inj, W.obj, W.g, fun p hp => hideW_in hp, fun p hp => hideW_in hp, fun p hp i vs e => by cases e⟩
  have start : Nok K cl Fr0 (hideW H (dom α w0)) G (slotsW ms ds ++ List.replicate (N.length - ds.length) .un) (L2.start N vs) H w0 α := by
    refine ⟨?_, WK⟩
    rw [pe]
    refine ⟨⟨Ex.refl _, Ex.refl _, W.gh, fun p hp => .inl hp⟩, ?_, fun i t ht => ?_, fun i j d1 d2 a hij h1 => ?_, fun i d h1 => ?_, hideW_le, fun i a vs h => (by cases h)⟩
    · unfold L2.start
      rw [List.length_append, List.length_append, List.length_map, List.length_replicate, List.length_replicate, l1, dv]
    · unfold L2.start
      by_cases hi : i < vs.length
      · rw [List.getElem?_append_left (by rw [l1]; exact hi)] at ht
        rw [List.getElem?_append_left (by simpa using hi)]
        exact (so i t ht).1
      · rw [List.getElem?_append_right (by rw [l1]; omega), List.getElem?_replicate] at ht
        split at ht
        · cases ht; exact .un
        · cases ht
    · exfalso
      by_cases hi : i < vs.length
      · rw [List.getElem?_append_left (by rw [l1]; exact hi)] at h1
        exact (so i _ h1).2.1 _ rfl
      · rw [List.getElem?_append_right (by rw [l1]; omega), List.getElem?_replicate] at h1
        split at h1 <;> cases h1
    · exfalso
      by_cases hi : i < vs.length
      · rw [List.getElem?_append_left (by rw [l1]; exact hi)] at h1
        exact (so i _ h1).2.2 _ rfl
      · rw [List.getElem?_append_right (by rw [l1]; omega), List.getElem?_replicate] at h1
        split at h1 <;> cases h1
  refine ⟨Fr0, _, G, _, w0, α, o, w2, start, e1, ?_⟩
  have leave : ∀ {G' H' : Hp} {α' : Pl}, Wx G w0 α G' w2 α' → WOk K cl Fr0 (hideW H (dom α w0)) G' H' α' w2 → Gx G (putW (hideW H (dom α w0)) (dom α' w2) H') G' H' → Bk K cl G H w0 α G' H' w2 α' := fun {G' H' α'} l W' gx =>
    ⟨gx_hide W' gx, l.le, l.n, l.al, ⟨gx.gh, W'.inj, W'.obj, W'.g⟩, W'.h⟩
  cases o with
  | rt d =>
    cases e3
    exact fun G' H' α' v l W' gx r => q G' H' α' v (leave l W' gx) r
  | nx ρ' =>
    cases rk with
    | md m =>
      cases m with
      | val =>
        cases e3
        exact fun G' σ' H' α' l s' => q G' H' α' .non (leave l s'.ww s'.sok.gx) (.val .non)
      | _ => cases e3
    | any =>
      cases e3
      exact fun G' σ' H' α' l s' => q G' H' α' .non (leave l s'.ww s'.sok.gx) (.d .non)
  | bk _ => cases e3
  | ct _ => cases e3
/-! ### calls -/
def mCall (Fn : MF) (r : MA) : ME := fun ρ w => (r ρ w).bind fun x => (Fn x.1 x.2).bind fun y => match y.1 with
  | .d d => some (d, y.2)
  | .r _ => none
def mCallQ (Fn : MF) (r : MA) : MQ := fun ρ w => (r ρ w).bind fun x => Fn x.1 x.2
def Fn1W (P : Program) (w : World) (K : PySem.W.Frag) (mg : Str → Option Value) (base : Heap) (cl : Str → Addr) (x : Str) (ps : List Str) (k : Nat) (rk : RK) (ms : List AK) (F : MF) : Prop :=
  ∃ (f : Addr) (fd : FuncData), FnOk P w K mg base CX0 k f fd ps (spW K cl rk ms F) ∧ mg x = some (.ref f) ∧ PySem.W.keepIn K (.ref f) = true ∧ Binds K fd ps []
section
variable {cl : Str → Addr} {X : Cx} {m : Md} {rk : RK} {ms : List AK} {e : Expr} {es : List Expr} {r : MA} {pos p : Pos} {x : Str} {k : Nat} {ps : List Str} {Fn : MF}
theorem callM_of (hm : MN m) : ∀ σ H Q, tM X.K cl m (mCall Fn r) σ H Q → tCall (spW X.K cl (.md m) ms Fn) [] E0 (tAM X.K cl ms r) σ H Q := fun σ H Q ⟨F, H0, G, ρ, w, α, d, w', s, ed, q⟩ => by
  obtain ⟨⟨ds, w1⟩, e1, ed⟩ := bind_some ed
  obtain ⟨⟨y, w2⟩, e2, ed⟩ := bind_some ed
  cases y with
  | r h => cases ed
  | d d' =>
    cases ed
    refine ⟨F, H0, G, ρ, w, α, ds, w1, s, e1, fun G' H' α' vs n s' ra => ?_⟩
    show spW X.K cl (.md m) ms Fn (vs ++ []) H' Q E0
    rw [List.append_nil]
    refine ⟨ra.len.2, G', w1, α', ds, _, _, s'.ww', ra, e2, fun G2 H2 α2 v b r2 => ?_⟩
    refine q G2 H2 α2 v (n.trans b.nx) (s'.back b) ?_
    rcases hm with rfl | rfl
    · exact .val r2.1
    · have r2 : RN X.K .new (hideW H' (dom α' w1)) _ α2 G2 H2 d v := r2
      obtain ⟨⟨p, rfl, np, g, o⟩, wn⟩ := r2
      refine ⟨⟨p, rfl, ?_, g, o⟩, wn⟩
      have z : ¬ dom α' w1 p := fun z => (b.le p z).elim (wn rfl p rfl) fun y => y g
      rw [hideW_out z] at np
      exact n.dom' s'.ww s'.gh np
theorem callQ_of : ∀ σ H Q, tQ X.K cl (mCallQ Fn r) σ H Q → tCall (spW X.K cl .any ms Fn) [] E0 (tAM X.K cl ms r) σ H Q := fun σ H Q ⟨F, H0, G, ρ, w, α, d, w', s, ed, q⟩ => by
  obtain ⟨⟨ds, w1⟩, e1, e2⟩ := bind_some ed
  refine ⟨F, H0, G, ρ, w, α, ds, w1, s, e1, fun G' H' α' vs n s' ra => ?_⟩
  show spW X.K cl .any ms Fn (vs ++ []) H' Q E0
  rw [List.append_nil]
  exact ⟨ra.len.2, G', w1, α', ds, _, _, s'.ww', ra, e2, fun G2 H2 α2 v b r2 => q G2 H2 α2 v (n.trans b.nx) (s'.back b) r2⟩
theorem m_fn (F : Fn1W X.prog X.w X.K X.mg X.base cl x ps k (.md m) ms Fn) (hr : Room k X.A) (ha : DAM cl X ms (e :: es) r) (hrm : MN m := by first | exact Or.inl rfl | exact Or.inr rfl) (hg : Gl X x := by rfl) (hdb : (x == ("__debug__" : Str)) = false := by decide) (he : starEach (e :: es) X.env = (false, eval e X.env) :: starEach es X.env := by rfl) (hpl : (backTo pos (starEach es X.env)).any (·.1) = false := by rfl) :
    DM cl X m (.Call (.Name x p) (e :: es) [] pos) (mCall Fn r) := by
  obtain ⟨f, fd, F, hm, hk, hb⟩ := F
  exact ⟨(pe_call F hr hg hm hk hb .nil pass0 ha.pa hdb he hpl).imp (callM_of hrm)⟩
theorem q_fn (F : Fn1W X.prog X.w X.K X.mg X.base cl x ps k .any ms Fn) (hr : Room k X.A) (ha : DAM cl X ms (e :: es) r) (hg : Gl X x := by rfl) (hdb : (x == ("__debug__" : Str)) = false := by decide) (he : starEach (e :: es) X.env = (false, eval e X.env) :: starEach es X.env := by rfl) (hpl : (backTo pos (starEach es X.env)).any (·.1) = false := by rfl) :
    DQ cl X (.Call (.Name x p) (e :: es) [] pos) (mCallQ Fn r) := by
  obtain ⟨f, fd, F, hm, hk, hb⟩ := F
  exact ⟨(pe_call F hr hg hm hk hb .nil pass0 ha.pa hdb he hpl).imp callQ_of⟩
end
noncomputable def boxM {α : Type} (a : α) : α := box a
end DV

namespace DV
open PySem L2 PySem.Spec PyProof.Rows
/-! ### lists of the world -/
section
variable {K : PySem.W.Frag} {cl : Str → Addr} {F : Fr} {H0 G H G' H' : Hp} {ρ ρ' : Rho} {σ σ' : L2.St} {w w' : Wd} {α α' : Pl}
theorem RepVA.atI {n : Nat} {ds : List WV} {vs : List V} {i : Int} {d : WV} (r : RepVA K G α n ds vs) (h : L2.atI ds i = some d) : ∃ v, L2.atI vs i = some v ∧ RepV K G α n d v := by
  unfold L2.atI at h ⊢
  rw [r.len] at h
  cases e : ixN vs.length i with
  | none => rw [e] at h; cases h
  | some j => rw [e] at h; exact r.get h
/-- the things from a place on -/
theorem RepVA.dropLast {n : Nat} {xs : List WV} {vs : List V} (h : RepVA K G α n xs vs) : RepVA K G α n xs.dropLast vs.dropLast := by
  rw [List.dropLast_eq_take, List.dropLast_eq_take, h.len]; exact h.take _
theorem RepVA.eraseIdx {n : Nat} : ∀ {xs : List WV} {vs : List V} (i : Nat), RepVA K G α n xs vs → RepVA K G α n (xs.eraseIdx i) (vs.eraseIdx i)
  | _, _, _, .nil => .nil
  | _, _, 0, .cons _ t => t
  | _, _, i + 1, .cons h t => .cons h (t.eraseIdx i)
theorem WOk.lst (W : WOk K cl F H0 G H α w) {h : Nat} {l : List WV} (e : w[h]? = some (.lst l)) : ∃ vs, H (α.a h) = some (.lst vs) ∧ RepVA K G α w.length l vs := W.obj h _ e
end
section
variable {K : PySem.W.Frag} {cl : Str → Addr} {F : Fr} {H0 G H G' H' : Hp} {ρ ρ' : Rho} {σ σ' : L2.St} {w w' : Wd} {α α' : Pl}
/-- without a thing that nobody holds -/
theorem Nok.drop (s : Nok K cl F H0 G ρ σ H w α) {p : Addr} (h0 : H0 p = none) (hg : G p = none) (hd : ¬ dom α w p) (no : ∀ (i : Nat) (d : PyData), ρ[i]? = some (Slot.own d) → σ[i]? ≠ some (some (V.ref p))) :
    Nok K cl F H0 G ρ σ (fun q => if q = p then none else H q) w α := by
  have out : ∀ q, q ≠ p → (fun q => if q = p then none else H q) q = H q := fun q ne => if_neg ne
  have sh := s.hide
  have ex : ∀ {A : Hp}, A p = none → Ex A (hideW H (dom α w)) → Ex A (hideW (fun q => if q = p then none else H q) (dom α w)) := fun {A} ha e q o h => by
    have ne : q ≠ p := fun z => by subst z; rw [ha] at h; cases h
    have := e q o h
    by_cases z : dom α w q
    · rw [hideW_in z] at this; cases this
    · rw [hideW_out z] at this ⊢; rw [if_neg ne]; exact this
  refine Nok.show ⟨⟨sh.gx.g, ex h0 sh.gx.h, ex hg sh.gx.gh, sh.gx.nw⟩, sh.len, fun i t ht => ?_, sh.apart, sh.pins, sh.base, sh.wf⟩ ⟨s.ww.inj, fun h o e => ?_, s.ww.g, s.ww.b, s.ww.h, s.ww.p⟩
  · have q := sh.slot i t ht
    generalize e : σ[i]?.getD none = x at q
    cases q with
    | un => exact .un
    | val h => exact .val h
    | bor h => exact .bor h
    | scr h => exact .scr h
    | pin => exact .pin
    | st h => exact .st h
    | @own d c h1 h2 h3 =>
      have ne : c ≠ p := fun z => no i d ht (by rw [getD_some e, z])
      refine .own h1 h2 (h3.mono (Ex.refl _) ?_)
      by_cases z : dom α w c
      · rw [hideW_in z, hideW_in z]
      · rw [hideW_out z, hideW_out z, if_neg ne]
  · refine (s.ww.obj h o e).mono (Ex.refl _) (Nat.le_refl _) (.refl _ _) (lt_of e) (fun hg => out _ fun z => hd (by rw [← z]; exact dom_a e hg)) fun hi => out _ fun z => hd (by rw [← z]; exact dom_x e hi)
theorem Nx.drop {G0 H1 : Hp} {w0 : Wd} {α0 : Pl} (n : Nx G0 H1 w0 α0 G H w α) {p : Addr} (np : H1 p = none) : Nx G0 H1 w0 α0 G (fun q => if q = p then none else H q) w α := by
  refine ⟨n.g, fun q o h => ?_, n.le, n.n, n.al, n.nw⟩
  have ne : q ≠ p := fun z => by
    subst z
    have := hideW_le q o h
    rw [np] at this; cases this
  have := n.h q o h
  by_cases z : dom α w q
  · rw [hideW_in z] at this; cases this
  · rw [hideW_out z] at this ⊢
    rw [if_neg ne]; exact this
theorem Nok.adopt' {G0 H1 : Hp} {w0 : Wd} {α0 : Pl} (s0 : Nok K cl F H0 G0 ρ σ H1 w0 α0) (n : Nx G0 H1 w0 α0 G H w α) (s : Nok K cl F H0 G ρ σ H w α) {p : Addr} {o : WO} (np : H1 p = none) (hg : G p = none) (hd : ¬ dom α w p) (hi : o.isI = false) (hgo : o.isG = false)
    (ob : ObjW K cl G (α.put w.length p p) (w.length + 1) H w.length o) : Nok K cl F H0 G ρ σ H (w ++ [o]) (α.put w.length p p) ∧ Nx G0 H1 w0 α0 G H (w ++ [o]) (α.put w.length p p) := by
  have s1 := s.drop (s0.h0 np) hg hd (s0.noOwn np)
  have z := s1.make (p := p) (x := p) (o := o) (H' := H) (if_pos rfl) (fun e => by rw [hi] at e; cases e) (fun q ne _ => (if_neg ne).symm) ob hgo
  exact ⟨z.1, (n.drop np).trans z.2⟩
end
/-! ### lists: new ones -/
/-- a new list of data comes to the world -/
def mMk (f : ME) : MR := fun ρ w => (f ρ w).bind fun x => match x.1 with
  | .list l => some (x.2.length, x.2 ++ [.lst (l.map .d)])
  | _ => none
def mNewL (r : MA) : MR := fun ρ w => (r ρ w).bind fun x => if x.1.length ≤ sizeLine then some (x.2.length, x.2 ++ [.lst x.1]) else none
/-- all arguments of any kind -/
theorem RWs.qs {K : PySem.W.Frag} {n : Nat} {α : Pl} {G B : Hp} : ∀ {ms : List AK} {ds : List WV} {vs : List V}, (∀ m ∈ ms, m = .q) → RWs K n α G B ms ds vs → RepVA K G α n ds vs
  | _, _, _, _, .nil => .nil
  | _, _, _, hq, .q h t => .cons h (RWs.qs (fun m hm => hq m (List.mem_cons_of_mem _ hm)) t)
  | _, _, _, hq, .val _ _ => by cases hq _ List.mem_cons_self
  | _, _, _, hq, .bor _ _ => by cases hq _ List.mem_cons_self
  | _, _, _, hq, .scr _ _ => by cases hq _ List.mem_cons_self
section
variable {cl : Str → Addr} {X : Cx} {rk : RK} {m : Md} {a b e : Expr} {es : List Expr} {ms : List AK} {f fb : ME} {fr : MR} {fq : MQ} {r : MA} {pos p p1 cpos apos tpos : Pos} {x : Str}
theorem r_mk (h : DM cl X .new e f) : DR cl X e (mMk f) := ⟨h.pe.imp fun σ H Q ⟨F, H0, G, ρ, w, α, h, w', s, e, q⟩ => by
  obtain ⟨⟨d, w1⟩, e1, e⟩ := bind_some e
  cases d with
  | list l =>
    cases e
    refine ⟨F, H0, G, ρ, w, α, _, w1, s, e1, fun G' H' α' v n s' rr => ?_⟩
    obtain ⟨⟨p, rfl, np, g, o⟩, wn⟩ := rr
    obtain ⟨vs, hv, ra⟩ := own_list o
    have z := s.adopt' n s' (p := p) (o := .lst (l.map .d)) np g (wn rfl p rfl) rfl rfl ⟨vs, by rw [show (α'.put w1.length p p).a w1.length = p from if_pos rfl]; exact hv, RepVA.data ra⟩
    have := q G' H' (α'.put w1.length p p) z.2 z.1 (by show w1.length < (w1 ++ [_]).length; simp)
    rw [show (α'.put w1.length p p).a w1.length = p from if_pos rfl] at this
    exact this
  | _ => cases e⟩
theorem r_list (h : DAM cl X ms es r) (hms : ∀ m ∈ ms, m = .q) : DR cl X (.List es pos) (mNewL r) :=
  ⟨(pe_lst h.pa).imp fun σ H Q ⟨F, H0, G, ρ, w, α, d, w', s, e, q⟩ => by
    obtain ⟨⟨ds, w1⟩, e1, e⟩ := bind_some e
    obtain ⟨hl, e⟩ := if_some e
    cases e
    refine ⟨F, H0, G, ρ, w, α, ds, w1, s, e1, fun G' H' α' vs n s' rr => ?_⟩
    have ra := rr.qs hms
    refine ⟨by rw [← ra.len]; exact hl, fun p np => ?_⟩
    have z := s'.make (p := p) (x := p) (o := .lst ds) (H' := upd H' p (.lst vs)) np (fun e => by cases e) (fun q ne _ => upd_ne ne) ⟨vs, by rw [show (α'.put w1.length p p).a w1.length = p from if_pos rfl]; exact upd_same, ra.mono (Ex.refl _) (Nat.le_succ _) Pl.put_le⟩
    have := q G' _ _ (n.trans z.2) z.1 (by show w1.length < (w1 ++ [_]).length; simp)
    rw [show (α'.put w1.length p p).a w1.length = p from if_pos rfl] at this
    exact this⟩
/-! ### lists: methods -/
def mMth (Fn : List WV → List WV → Option (WV × List WV)) (fr : MR) (r : MA) : MQ := fun ρ w => (fr ρ w).bind fun x => match x.2[x.1]? with
  | some (.lst _) => (r ρ x.2).bind fun y => match y.2[x.1]? with
    | some (.lst l) => (Fn l y.1).map fun z => (z.1, y.2.set x.1 (.lst z.2))
    | _ => none
  | _ => none
def MthF (K : PySem.W.Frag) (rr : V → List V → Hp → VK → Prop) (ms : List AK) (Fn : List WV → List WV → Option (WV × List WV)) : Prop :=
  ∀ (G B H : Hp) (n : Nat) (α : Pl) (l ds : List WV) (z : WV × List WV) (vs us : List V) (p : Addr) (Q : VK), H p = some (.lst vs) → RepVA K G α n l vs → RWs K n α G B ms ds us → Fn l ds = some z → (∀ v us', RepV K G α n z.1 v → RepVA K G α n z.2 us' → Q v (upd H p (.lst us'))) → rr (.ref p) us H Q
theorem mth_of {K : PySem.W.Frag} {rr : V → List V → Hp → VK → Prop} {Fn : List WV → List WV → Option (WV × List WV)} (hF : MthF K rr ms Fn) : ∀ σ H Q, tQ K cl (mMth Fn fr r) σ H Q → tBM K "list" rr (tR K cl fr) (tAM K cl ms r) σ H Q := fun σ H Q ⟨F, H0, G, ρ, w, α, x, w', s, e, q⟩ => by
  obtain ⟨⟨h, w1⟩, e1, e⟩ := bind_some e
  cases e5 : w1[h]? with
  | none => rw [e5] at e; cases e
  | some o =>
    rw [e5] at e
    cases o with
    | lst l0 =>
      obtain ⟨⟨ds, w2⟩, e2, e⟩ := bind_some e
      cases e6 : w2[h]? with
      | none => rw [e6] at e; cases e
      | some o =>
        rw [e6] at e
        cases o with
        | lst l =>
          obtain ⟨z, e3, e4⟩ := map_some e
          cases e4
          refine ⟨F, H0, G, ρ, w, α, h, w1, s, e1, fun G1 H1 α1 n1 s1 hh => ?_⟩
          obtain ⟨vs0, hv0, _⟩ := s1.ww.lst e5
          refine ⟨.inl ⟨rfl, _, SqL.of hv0⟩, F, H0, G1, ρ, w1, α1, ds, w2, s1, e2, fun G2 H2 α2 us n2 s2 ra => ?_⟩
          obtain ⟨vs, hv, rl⟩ := s2.ww.lst e6
          rw [← (n2.al h hh).1]
          refine hF G2 _ H2 w2.length α2 l ds z vs us _ _ hv rl ra e3 fun v us' rv ru => ?_
          have t := s2.turn (o' := .lst z.2) (u := .lst us') e6 rfl ⟨us', upd_same, ru⟩
          refine q G2 _ α2 v ((n1.trans n2).trans t.2) t.1 ?_
          rw [List.length_set]; exact rv
        | _ => cases e
    | _ => cases e
def lApp : List WV → List WV → Option (WV × List WV) := fun l ds => match ds with
  | [x] => if l.length < sizeLine then some (.d .none, l ++ [x]) else none
  | _ => none
def lPopAt : List WV → List WV → Option (WV × List WV) := fun l ds => match ds with
  | [.d (.int i)] => if -(2 ^ 63) ≤ i ∧ i < 2 ^ 63 then (seqIndex? i l.length).bind fun k => (l[k]?).map fun x => (x, l.eraseIdx k) else none
  | _ => none
def lPop : List WV → List WV → Option (WV × List WV) := fun l _ => (l[l.length - 1]?).map fun x => (x, l.dropLast)
def lIns : List WV → List WV → Option (WV × List WV) := fun l ds => match ds with
  | [.d (.int i), x] => if l.length < sizeLine ∧ 0 ≤ i ∧ i < 2 ^ 63 then some (.d .none, l.take i.toNat ++ [x] ++ l.drop i.toNat) else none
  | _ => none
theorem mf_app {K : PySem.W.Frag} : MthF K rAppend [.q] lApp := fun G B H n α l ds z vs us p Q hv rl ra h q => by
  unfold lApp at h
  split at h
  · obtain ⟨hl, e⟩ := if_some h
    cases e
    cases ra with
    | q r1 t =>
      cases t
      exact ⟨p, vs, _, rfl, rfl, hv, by rw [← rl.len]; exact hl, q _ _ (.d .non) (rl.app (.cons r1 .nil))⟩
  · cases h
theorem mf_popAt {K : PySem.W.Frag} : MthF K rPopAt [.md .val] lPopAt := fun G B H n α l ds z vs us p Q hv rl ra h q => by
  unfold lPopAt at h
  split at h
  · obtain ⟨⟨h1, h2⟩, h⟩ := ite_some h
    obtain ⟨k, h3, h⟩ := bind_some h
    obtain ⟨x, h4, h⟩ := map_some h
    cases h
    cases ra with
    | val r1 t =>
      cases t
      cases r1
      obtain ⟨v, h5, h6⟩ := rl.get h4
      exact ⟨p, vs, _, k, v, rfl, rfl, hv, h1, h2, by rw [← rl.len]; exact h3, h5, q _ _ h6 (rl.eraseIdx k)⟩
  · cases h
theorem q_app (ho : DR cl X e fr) (ha : DQ cl X a fq)
    (hbase : attributeBase e "append" X.env (eval e X.env) = eval e X.env := by rfl)
    (hfew : ((backTo cpos (starEach (a :: []) X.env)).all (fun x => !x.1) && (backToKw cpos (keywordEach [] X.env)).all (fun x => x.1.isSome)
      && decide ((a :: []).length + ([] : List Keyword).length + (if ([] : List Keyword).isEmpty then 0 else 1) < 30)) = true := by rfl)
    (hline : (apos.endLine == cpos.line) = true := by rfl) (hs : starEach (a :: []) X.env = (false, eval a X.env) :: starEach [] X.env := by rfl) (hplain : (backTo cpos (starEach [] X.env)).any (·.1) = false := by rfl) :
    DQ cl X (.Call (.Attribute e "append" apos) [a] [] cpos) (mMth lApp fr (maQ fq maNil)) :=
  ⟨(pe_bm PySem.F.plainAttrs_list PySem.F.slot_list_append PySem.F.type_list_append mt_append ho.pe (ma_q ha ma_nil hs).pa hbase hfew hline hs hplain).imp (mth_of mf_app)⟩
theorem q_popAt (ho : DR cl X e fr) (ha : DM cl X .val a f)
    (hbase : attributeBase e "pop" X.env (eval e X.env) = eval e X.env := by rfl)
    (hfew : ((backTo cpos (starEach (a :: []) X.env)).all (fun x => !x.1) && (backToKw cpos (keywordEach [] X.env)).all (fun x => x.1.isSome)
      && decide ((a :: []).length + ([] : List Keyword).length + (if ([] : List Keyword).isEmpty then 0 else 1) < 30)) = true := by rfl)
    (hline : (apos.endLine == cpos.line) = true := by rfl) (hs : starEach (a :: []) X.env = (false, eval a X.env) :: starEach [] X.env := by rfl) (hplain : (backTo cpos (starEach [] X.env)).any (·.1) = false := by rfl) :
    DQ cl X (.Call (.Attribute e "pop" apos) [a] [] cpos) (mMth lPopAt fr (maD f maNil)) :=
  ⟨(pe_bm PySem.F.plainAttrs_list PySem.F.slot_list_pop PySem.F.type_list_pop mt_popAt ho.pe (ma_val ha ma_nil hs).pa hbase hfew hline hs hplain).imp (mth_of mf_popAt)⟩
/-- x.pop() -/
def mMth0 (Fn : List WV → List WV → Option (WV × List WV)) (fr : MR) : MQ := fun ρ w => (fr ρ w).bind fun x => match x.2[x.1]? with
  | some (.lst l) => (Fn l []).map fun z => (z.1, x.2.set x.1 (.lst z.2))
  | _ => none
/-! ### lists: items -/
def mIx (fr : MR) (fb : ME) : MQ := fun ρ w => (fr ρ w).bind fun x => (fb ρ x.2).bind fun y => match y.2[x.1]?, y.1 with
  | some (.lst l), .int i => (atI l i).map fun z => (z, y.2)
  | _, _ => none
theorem q_ix (ha : DR cl X a fr) (hb : DM cl X .val b fb) (hs : PlainIx b := by intro _ _; rfl) : DQ cl X (.Subscript a b pos) (mIx fr fb) :=
  ⟨(pe_ix ix_list ha.pe hb.pe hs).imp fun σ H Q ⟨F, H0, G, ρ, w, α, x, w', s, e, q⟩ => by
    obtain ⟨⟨h, w1⟩, e1, e⟩ := bind_some e
    obtain ⟨⟨d, w2⟩, e2, e⟩ := bind_some e
    refine ⟨F, H0, G, ρ, w, α, h, w1, s, e1, fun G1 H1 α1 n1 s1 hh => ⟨F, H0, G1, ρ, w1, α1, d, w2, s1, e2, fun G2 H2 α2 v n2 s2 r2 => ?_⟩⟩
    split at e
    · rename_i l i e5 e6
      obtain ⟨z, e3, e4⟩ := map_some e
      cases e4
      cases e6
      obtain ⟨vs, hv, rl⟩ := s2.ww.lst e5
      cases (show Rep X.K G2 (.int i) v from r2.1)
      obtain ⟨u, h2, h3⟩ := rl.atI e3
      rw [← (n2.al h hh).1]
      exact ⟨_, vs, i, u, rfl, rfl, SqL.of hv, h2, q G2 H2 α2 u (n1.trans n2) s2 h3⟩
    · cases e⟩
/-- o[i] = v: the value first -/
def mPutI (fr : MR) (fb : ME) (fv : MQ) : MS := fun ρ w => (fv ρ w).bind fun v => (fr ρ v.2).bind fun x => (fb ρ x.2).bind fun y => match y.2[x.1]?, y.1 with
  | some (.lst l), .int i => (ixN l.length i).map fun j => (.nx ρ, y.2.set x.1 (.lst (l.set j v.1)))
  | _, _ => none
theorem ms_putI (he : DQ cl X e fq) (ha : DR cl X a fr) (hb : DM cl X .val b fb)
    (hass : ∀ v, assign (.Subscript a b tpos) X.env v = (do
      let ov ← holding [v] (eval a X.env)
      let iv ← holding [v, ov] (eval b X.env)
      standAt tpos
      holding [v, ov, iv] (setItem ov iv v)
      release [v, ov, iv] []) := by intro _; rfl)
    (hs : swapsWithSole [.Subscript a b tpos] e pos.line X.env = pure false := by rfl) (hw : swappedStores [.Subscript a b tpos] e X.env = pure none := by rfl)
    (h1 : (assignEach [.Subscript a b tpos] X.env).map (·.2) = [assign (.Subscript a b tpos) X.env] := by rfl) : DSM cl X rk (.Assign [.Subscript a b tpos] e pos) (mPutI fr fb fq) :=
  ⟨(ps_asg he.pe (pg_sub ha.pe hb.pe set_list hass) hs hw h1).imp fun D σ H ⟨F, H0, G, ρ, w, α, o, w', s, e, q⟩ => by
    obtain ⟨⟨xv, w1⟩, e1, e⟩ := bind_some e
    obtain ⟨⟨h, w2⟩, e2, e⟩ := bind_some e
    obtain ⟨⟨d, w3⟩, e3, e⟩ := bind_some e
    refine ⟨F, H0, G, ρ, w, α, xv, w1, s, e1, fun G1 H1 α1 v n1 s1 r1 => ⟨F, H0, G1, ρ, w1, α1, h, w2, s1, e2, fun G2 H2 α2 n2 s2 hh => ⟨F, H0, G2, ρ, w2, α2, d, w3, s2, e3, fun G3 H3 α3 y n3 s3 r3 => ?_⟩⟩⟩
    split at e
    · rename_i l i e5 e6
      obtain ⟨j, e7, e4⟩ := map_some e
      cases e4
      cases e6
      obtain ⟨vs, hv, rl⟩ := s3.ww.lst e5
      cases (show Rep X.K G3 (.int i) y from r3.1)
      rw [← (n3.al h hh).1]
      have n23 := n2.trans n3
      have t := s3.turn (o' := .lst (l.set j xv)) (u := .lst (vs.set j v)) e5 rfl ⟨_, upd_same, rl.set j (r1.mono n23.g n23.n n23.al)⟩
      exact ⟨_, vs, i, j, rfl, rfl, hv, by rw [← rl.len]; exact e7, q G3 σ _ α3 ((n1.trans n23).trans t.2).wx t.1⟩
    · cases e⟩
/-- len(o) -/
def mLenL (fr : MR) : ME := fun ρ w => (fr ρ w).bind fun x => match x.2[x.1]? with
  | some (.lst l) => some (.int l.length, x.2)
  | _ => none
theorem m_lenL (ha : DR cl X a fr) (hm : X.mg "len" = none) (hg : Gl X "len" := by rfl) (he : starEach [a] X.env = (false, eval a X.env) :: starEach [] X.env := by rfl) (hpl : (backTo pos (starEach [] X.env)).any (·.1) = false := by rfl) :
    DM cl X .val (.Call (.Name "len" p) [a] [] pos) (mLenL fr) :=
  ⟨(pe_callB call_len hg hm PySem.boot_len (pa_cons ha.pe pa_nil he) (by decide) (by decide) he hpl).imp fun σ H Q ⟨F, H0, G, ρ, w, α, d, w', s, e, q⟩ => by
    obtain ⟨⟨h, w1⟩, e1, e⟩ := bind_some e
    refine ⟨F, H0, G, ρ, w, α, h, w1, s, e1, fun G1 H1 α1 n1 s1 hh => ?_⟩
    split at e
    · rename_i l e5
      cases e
      obtain ⟨vs, hv, rl⟩ := s1.ww.lst e5
      refine ⟨_, _, rfl, .inl ⟨_, SqL.of hv, rfl⟩, ?_⟩
      rw [← rl.len]
      exact q G1 H1 α1 _ n1 s1 (.val (.int _))
    · cases e⟩
end
end DV

namespace DV
open PySem L2 PySem.Spec PyProof.Rows
/-! ### things of the world that are frozen -/
section
variable {K : PySem.W.Frag} {cl : Str → Addr} {F : Fr} {H0 G H G' H' : Hp} {ρ ρ' : Rho} {σ σ' : L2.St} {w w' : Wd} {α α' : Pl}
end
def undata : List WV → Option (List PyData)
  | [] => some []
  | .d x :: r => (undata r).map (x :: ·)
  | .r _ :: _ => none
theorem undata_inv : ∀ {l : List WV} {ds : List PyData}, undata l = some ds → l = ds.map .d
  | [], ds, h => by cases h; rfl
  | .d x :: r, ds, h => by
    obtain ⟨ds', e, rfl⟩ := map_some (show (undata r).map (x :: ·) = some ds from h)
    rw [undata_inv e]; rfl
  | .r _ :: _, ds, h => by cases h
@[simp] theorem undata_map : ∀ ds : List PyData, undata (ds.map .d) = some ds
  | [] => rfl
  | d :: ds => by rw [List.map_cons]; show (undata (ds.map .d)).map (d :: ·) = _; rw [undata_map ds]; rfl
/-- lists that are reached become data -/
def frzL : List WV → Wd → Option (List PyData × Wd)
  | [], w => some ([], w)
  | .d x :: r, w => (frzL r w).map fun y => (x :: y.1, y.2)
  | .r h :: r, w => match w[h]? with
    | some (.lst l) => (undata l).bind fun ds => (frzL r (w.set h (.gone (.list ds)))).map fun y => (.list ds :: y.1, y.2)
    | some (.gone d) => (frzL r w).map fun y => (d :: y.1, y.2)
    | _ => none
section
variable {K : PySem.W.Frag} {cl : Str → Addr} {F : Fr} {H0 H : Hp} {ρ : Rho} {σ : L2.St} {α : Pl}
end
/-- a dict of the world, its lists too, becomes data -/
def mFrzD (fr : MR) : ME := fun ρ w => (fr ρ w).bind fun x => match x.2[x.1]? with
  | some (.dK es) => (frzL (es.map (·.2)) x.2).map fun y => (.dict ((es.map fun p => keyD p.1).zip y.1), y.2.set x.1 (.gone (.dict ((es.map fun p => keyD p.1).zip y.1))))
  | _ => none
section
variable {cl : Str → Addr} {X : Cx} {rk : RK} {m : Md} {a b e : Expr} {es : List Expr} {ms : List AK} {f fb : ME} {fr : MR} {fq : MQ} {r : MA} {pos p p1 cpos apos tpos : Pos} {x : Str} {k : Nat}
/-! ### dicts of the world -/
def wGet (es : List (Key × WV)) (k : Key) : Option WV := (es.find? fun kv => decide (kv.1 = k)).map (·.2)
def wPut (es : List (Key × WV)) (k : Key) (v : WV) : List (Key × WV) :=
  if (es.any fun kv => decide (kv.1 = k)) = true then es.map (fun kv => if kv.1 = k then (kv.1, v) else kv) else es ++ [(k, v)]
/-- d[k] -/
def mDGet (fr : MR) (fk : ME) : MQ := fun ρ w => (fr ρ w).bind fun x => (fk ρ x.2).bind fun y => match y.2[x.1]? with
  | some (.dK es) => (unK y.1).bind fun k => (wGet es k).map fun z => (z, y.2)
  | some (.lk es) => (unK y.1).bind fun k => (wGet es k).map fun z => (z, y.2)
  | _ => none
/-- k in d, k not in d -/
def mDIn (neg : Bool) (fk : ME) (fr : MR) : MB := fun ρ w => (fk ρ w).bind fun y => (fr ρ y.2).bind fun x => match x.2[x.1]? with
  | some (.dK es) => (unK y.1).map fun k => (neg ^^ (wGet es k).isSome, x.2)
  | some (.lk es) => (unK y.1).map fun k => (neg ^^ (wGet es k).isSome, x.2)
  | _ => none
/-- d[k] = v -/
def mDPut (fv : MQ) (fr : MR) (fk : ME) : MS := fun ρ w => (fv ρ w).bind fun v => (fr ρ v.2).bind fun x => (fk ρ x.2).bind fun y => match y.2[x.1]? with
  | some (.dK es) => (unK y.1).bind fun k => if es.length < sizeLine then some (.nx ρ, y.2.set x.1 (.dK (wPut es k v.1))) else none
  | _ => none
/-- {} -/
def mNewD : MR := fun _ w => some (w.length, w ++ [.dK []])
/-! ### own names frozen -/
def mFz (i : Nat) (f : MS) : MS := fun ρ w => match ρ[i]? with
  | some (.own d) => f (ρ.set i (.val d)) w
  | some (.val _) => f ρ w
  | _ => none
theorem ms_fz {st : Stmt} {g : MS} (i : Nat) (h : DSM cl X rk st g) : DSM cl X rk st (mFz i g) := ⟨(ps_fz h.ps).imp fun D σ H ⟨F, H0, G, ρ, w, α, o, w', s, e, q⟩ => by
  unfold mFz at e
  split at e
  · rename_i d h
    obtain ⟨a, u, hu, r⟩ := s.sok.freeze h
    rcases r with ⟨G', eg, s'⟩ | ⟨mu, r⟩
    · exact .inl ⟨F, H0, G', _, w, α, o, w', s.sok' eg s', e, q.grow (.ex eg)⟩
    · exact .inr ⟨a, u, hu, mu, fun od => (r od).elim fun G' z => ⟨F, H0, G', _, w, α, o, w', s.sok' z.1 z.2, e, q.grow (.ex z.1)⟩⟩
  · exact .inl ⟨F, H0, G, ρ, w, α, o, w', s, e, q⟩
  · cases e⟩
end
/-! ### from outside: a function on data -/
def outD (Fn : MF) : List PyData → Option PyData := fun ds => (Fn (ds.map .d) []).bind fun x => match x.1 with
  | .d d => some d
  | .r _ => none
theorem rws_of {K : PySem.W.Frag} {n : Nat} {α : Pl} {G H : Hp} : ∀ {ms : List Md} {ds : List PyData} {vs : List V}, ArgMd ms → RMs K H H G H ms ds vs → RWs K n α G H (ms.map .md) (ds.map .d) vs
  | _, _, _, _, .nil => .nil
  | m :: ms, _, _, am, .cons h t => by
    have r := rws_of (n := n) (α := α) (fun m hm => am m (List.mem_cons_of_mem _ hm)) t
    rcases am m List.mem_cons_self with rfl | rfl | rfl
    · exact .val h r
    · exact .bor h r
    · exact .scr h r
theorem outD_ok {P : Program} {w : World} {K : PySem.W.Frag} {mg : Str → Option Value} {base : Heap} {cl : Str → Addr} {k : Nat} {f : Addr} {fd : FuncData} {ps : List Str} {m : Md} {ms : List Md} {ak : List AK} {Fn : MF} (h : FnOk P w K mg base CX0 k f fd ps (spW K cl (.md m) ak Fn)) (hk : ak = ms.map .md) (am : ArgMd ms) (hm : MN m := by first | exact Or.inl rfl | exact Or.inr rfl) :
    FnOk P w K mg base CX0 k f fd ps (spD K m ms (outD Fn)) := by
  subst hk
  refine h.imp fun vs H Q E ⟨hl, G, ds, d, eg, ra, hF, q⟩ => ?_
  obtain ⟨⟨x, w'⟩, e1, e2⟩ := bind_some hF
  cases x with
  | r h => cases e2
  | d d' =>
    cases e2
    have nd : ∀ p, ¬ dom (⟨fun _ => 0, fun _ => 0, fun _ => none⟩ : Pl) [] p := fun p ⟨h, o, e, _⟩ => by simp at e
    have e0 : hideW H (dom (⟨fun _ => 0, fun _ => 0, fun _ => none⟩ : Pl) []) = H := by
      funext p
      exact hideW_out (nd p)
    refine ⟨hl.trans (by simp), G, [], ⟨fun _ => 0, fun _ => 0, fun _ => none⟩, _, _, w', ⟨eg, fun h _ o _ hh => (by simp at hh), fun h o e => (by simp at e), fun p hp => absurd hp (nd p)⟩, ?_, e1, fun G' H' α' v b r => ?_⟩
    · rw [e0]; exact rws_of am ra
    · have gx := b.gx
      rw [e0] at gx r
      refine q G' H' v ⟨gx.g, gx.h.trans hideW_le, b.ww.gh, gx.nw⟩ ?_
      rcases hm with rfl | rfl
      · exact r.1
      · exact r.1
end DV
namespace DV
open PySem L2 PySem.Spec PyProof.Rows
theorem fn_okWB {P : Program} {w : World} {K : PySem.W.Frag} {mg : Str → Option Value} {base : Heap} {cl : Str → Addr} {x qual : Str} {st : Stmt} {f : Addr} {fd : FuncData} {N ps : List Str} {k n : Nat} {ms : List AK} {rk : RK} {b : MS} (F : Fun K x qual st f fd) (S : FnScope N ps (defScope st))
    (hm : ms.length = ps.length) (hn : N.length = n)
    (body : ∀ (cdv : Value) (A : Around) (outer : List Env) (s : Shared) (H : Hp) (E : XK), Room k (A.deeper (PyProof.Rows.envOfC qual (defScope st) s.heap.objs.size f cdv)) → DBM cl (cxOf CX0 P w K mg base N qual (defScope st) f cdv A outer s H E).nox rk (defBody st) b) :
    FnOk P w K mg base CX0 (k + 1) f fd ps (spW K cl rk ms (box (runW n rk ms b))) := by
  rw [box_eq]; exact fn_okW F S hm hn body
theorem outD_okB {P : Program} {w : World} {K : PySem.W.Frag} {mg : Str → Option Value} {base : Heap} {cl : Str → Addr} {x qual : Str} {st : Stmt} {f : Addr} {fd : FuncData} {N ps : List Str} {k n : Nat} {m : Md} {ms : List Md} {ak : List AK} {b : MS} (F : Fun K x qual st f fd) (S : FnScope N ps (defScope st))
    (hm : ak.length = ps.length) (hn : N.length = n) (hk : ak = ms.map .md) (am : ArgMd ms)
    (body : ∀ (cdv : Value) (A : Around) (outer : List Env) (s : Shared) (H : Hp) (E : XK), Room k (A.deeper (PyProof.Rows.envOfC qual (defScope st) s.heap.objs.size f cdv)) → DBM cl (cxOf CX0 P w K mg base N qual (defScope st) f cdv A outer s H E).nox (.md m) (defBody st) b) (hmn : MN m := by first | exact Or.inl rfl | exact Or.inr rfl) :
    FnOk P w K mg base CX0 (k + 1) f fd ps (spD K m ms (box (outD (runW n (.md m) ak b)))) := by
  rw [box_eq]; exact outD_ok (fn_okW F S hm hn body) hk am hmn
end DV
namespace DV
theorem aq_nil : ∀ m ∈ ([] : List AK), m = .q := fun m hm => absurd hm List.not_mem_nil
theorem aq_cons {ms : List AK} (h : ∀ m ∈ ms, m = .q) : ∀ m ∈ AK.q :: ms, m = .q := fun m hm => (List.mem_cons.mp hm).elim id (h m)
end DV

namespace DV
open PySem L2 PySem.Spec PyProof.Rows
/-! ### instances: attributes -/
def wPutF (f : Str) (x : WV) : List (Str × WV) → List (Str × WV)
  | [] => [(f, x)]
  | (g, y) :: r => if g = f then (g, x) :: r else (g, y) :: wPutF f x r
section
variable {K : PySem.W.Frag} {cl : Str → Addr} {F : Fr} {H0 G H : Hp} {α : Pl} {w : Wd} {n : Nat}
theorem WOk.ins (W : WOk K cl F H0 G H α w) {h : Nat} {c : Str} {fs : List (Str × WV)} (e : w[h]? = some (.ins c fs)) : ∃ vs, H (α.a h) = some (.ins (cl c) (α.x h) vs) ∧ H (α.x h) = some (.own (α.a h)) ∧ fs.map (·.1) = vs.map (·.1) ∧ RepVA K G α w.length (fs.map (·.2)) (vs.map (·.2)) := W.obj h _ e
end
/-- o.f -/
def mFld (c f : Str) (fr : MR) : MQ := fun ρ w => (fr ρ w).bind fun x => match x.2[x.1]? with
  | some (.ins c' fs) => if c' = c then (fs.lookup f).map fun v => (v, x.2) else none
  | _ => none
/-- o.f = v: the value first -/
def mSetF (c f : Str) (fr : MR) (fv : MQ) : MS := fun ρ w => (fv ρ w).bind fun v => (fr ρ v.2).bind fun x => match x.2[x.1]? with
  | some (.ins c' fs) => if c' = c ∧ fs.length < 1000 then some (.nx ρ, x.2.set x.1 (.ins c (wPutF f v.1 fs))) else none
  | _ => none
section
variable {cl : Str → Addr} {X : Cx} {rk : RK} {m : Md} {e o : Expr} {es : List Expr} {ms : List AK} {fr : MR} {fq : MQ} {r r2 : MA} {pos pos' p apos : Pos} {c f x : Str} {k : Nat} {ps : List Str} {Fn : MF}
/-! ### methods -/
def mMeth (c m : Str) (Fn : MF) (fr : MR) (r : MA) : MQ := fun ρ w => (fr ρ w).bind fun x => match x.2[x.1]? with
  | some (.ins c' fs) => if c' = c ∧ (fs.lookup m).isNone = true then (r ρ x.2).bind fun y => Fn (.r x.1 :: y.1) y.2 else none
  | _ => none
def MethW (P : Program) (w : World) (K : PySem.W.Frag) (mg : Str → Option Value) (base : Heap) (cl : Str → Addr) (c x : Str) (ps : List Str) (k : Nat) (rk : RK) (ms : List AK) (F : MF) : Prop :=
  ∃ (f : Addr) (fd : FuncData), FnOk P w K mg base CX0 k f fd ps (spW K cl rk (.q :: ms) F) ∧ Cls K (cl c) ∧ Meth K (cl c) x f ∧ Binds K fd ps []
variable {mm : Str} {pl : Sem Bool}
/-! ### properties -/
def mProp (c : Str) (Fn : MF) (fr : MR) : MQ := fun ρ w => (fr ρ w).bind fun x => match x.2[x.1]? with
  | some (.ins c' _) => if c' = c then Fn [.r x.1] x.2 else none
  | _ => none
def PropW (P : Program) (w : World) (K : PySem.W.Frag) (mg : Str → Option Value) (base : Heap) (cl : Str → Addr) (c x : Str) (ps : List Str) (k : Nat) (rk : RK) (F : MF) : Prop :=
  ∃ (p g : Addr) (fd : FuncData), FnOk P w K mg base CX0 k g fd ps (spW K cl rk [.q] F) ∧ Cls K (cl c) ∧ PropOf K (cl c) x p g ∧ Binds K fd ps []
end
/-! ### keywords; instances are made -/
structure DKM (cl : Str → Addr) (X : Cx) (ms : List AK) (kws : List Keyword) (f : MA) : Prop where
  pk : PK X kws (tAM X.K cl ms f)
theorem RWs.app {K : PySem.W.Frag} {n : Nat} {α : Pl} {G B : Hp} : ∀ {ms ms2 : List AK} {ds ds2 : List WV} {vs vs2 : List V}, RWs K n α G B ms ds vs → RWs K n α G B ms2 ds2 vs2 → RWs K n α G B (ms ++ ms2) (ds ++ ds2) (vs ++ vs2)
  | _, _, _, _, _, _, .nil, t => t
  | _, _, _, _, _, _, .q h s, t => .q h (s.app t)
  | _, _, _, _, _, _, .val h s, t => .val h (s.app t)
  | _, _, _, _, _, _, .bor h s, t => .bor h (s.app t)
  | _, _, _, _, _, _, .scr h s, t => .scr h (s.app t)
section
variable {cl : Str → Addr} {X : Cx} {rk : RK} {m : Md} {e o : Expr} {es : List Expr} {ms ms1 ms2 ms3 : List AK} {fm : ME} {fr : MR} {fq : MQ} {r r2 : MA} {pos pos' p apos kpos : Pos} {c f x : Str} {nm : Option Str} {k n : Nat} {ps ks : List Str} {Fn : MF} {kws : List Keyword} {dd : List WV} {dv : List V}
/-- a pure def with keywords, its arguments made over the world -/
def mFK (F : List PyData → Option PyData) (r r2 : MA) (dd : List PyData) : ME := fun ρ w => (r ρ w).bind fun a => (r2 ρ a.2).bind fun b => (F (unD a.1 ++ (unD b.1 ++ dd))).map fun d => (d, b.2)
/-- C(e, k = v, ..): a new instance, then __init__ -/
def mMake (c : Str) (Fn : MF) (dd : List WV) (r r2 : MA) : MR := fun ρ w => (r ρ w).bind fun a => (r2 ρ a.2).bind fun b => (Fn (.r b.2.length :: (a.1 ++ (b.1 ++ dd))) (b.2 ++ [.ins c []])).bind fun y => match y.1 with
  | .d .none => some (b.2.length, y.2)
  | _ => none
def MakeW (P : Program) (w : World) (K : PySem.W.Frag) (mg : Str → Option Value) (base : Heap) (cl : Str → Addr) (c x : Str) (ps : List Str) (k : Nat) (ms : List AK) (F : MF) (n : Nat) (ks : List Str) (dv : List V) : Prop :=
  ∃ (f : Addr) (fd : FuncData) (g : List Value → List Value → List Value), FnOk P w K mg base CX0 k f fd ps (spW K cl (.md .val) (.q :: ms) F) ∧ Mk K (cl c) f ∧ mg x = some (.ref (cl c)) ∧ KBn K fd ps (n + 1) ks g (fun vs zs => vs ++ (zs ++ dv))
end
end DV

namespace DV
open PySem L2 PySem.Spec PyProof.Rows
/-! ### list(o), o's __iter__ hands out an iterator over a list -/
section
variable {prog : Program} {w : World} {A : Around} {E : Value → Shared → Prop} {s : Shared} {it l : Addr} {i : Nat} {items : Array Value}
end
section
variable {X : Cx} {pins : List (Addr × Obj)} {σ : L2.St} {s s' : Shared} {A1 : Around} {q it l : Addr} {zs : List V} {HB : Hp} {n : Nat}
end
/-- a class whose __iter__ is a def, without __len__ and __length_hint__ -/
structure ItL (K : PySem.W.Frag) (C fi : Addr) : Prop where
  it : PySem.W.findIn K (.ref C) "__iter__" = some (some (.ref fi))
  itF : PySem.W.isFn K (.ref fi) = true
  nolen : PySem.W.findIn K (.ref C) "__len__" = some none
  nohint : PySem.W.findIn K (.ref C) "__length_hint__" = some none
section
variable {X : Cx} {pins : List (Addr × Obj)} {σ : L2.St} {H : Hp} {s : Shared} {A1 : Around} {C fi a q l : Addr} {zs : List V} {fdI : FuncData} {psI : List Str} {spI : Sp} {n : Nat}
/-- what __iter__ promises at a -/
def HandsIt (spI : Sp) (a l : Addr) (H : Hp) : Prop := spI [.ref a] H (fun v H' => ∃ it, v = .ref it ∧ H it = none ∧ H' = upd H it (ItO l it 0)) E0
/-- list(o) -/
def rListI (K : PySem.W.Frag) (C : Addr) (spI : Sp) : List V → Hp → VK → Prop := fun xs H Q => ∃ a dx fs l zs, xs = [.ref a] ∧ H a = some (.ins C dx fs) ∧ SqL K H l zs ∧
  (∀ q, H q = none → HandsIt spI a l (upd H q (.lst []))) ∧ ∀ q H', H q = none → Ex H H' → H' q = some (.lst zs) → Q (.ref q) H'
end
/-- what an __iter__ that hands out iter(self.f) promises -/
def spIt (K : PySem.W.Frag) (f : Str) : Sp := fun vs H Q _ => ∃ a C dx fs l zs, vs = [V.ref a] ∧ H a = some (.ins C dx fs) ∧ Cls K C ∧ NoAttr K C f ∧ fs.lookup f = some (.ref l) ∧ SqL K H l zs ∧ ∀ it, H it = none → Q (.ref it) (upd H it (ItO l it 0))
def IterW (P : Program) (w : World) (K : PySem.W.Frag) (mg : Str → Option Value) (base : Heap) (cl : Str → Addr) (c f : Str) (n : Nat) : Prop :=
  ∃ (fi : Addr) (fdI : FuncData), FnOk P w K mg base CX0 n fi fdI ["self"] (spIt K f) ∧ Binds K fdI ["self"] [] ∧ ItL K (cl c) fi ∧ Cls K (cl c) ∧ NoAttr K (cl c) f
def mListI (c f : Str) (fr : MR) : ME := fun ρ w => (fr ρ w).bind fun x => match x.2[x.1]? with
  | some (.ins c' fs) => if c' = c then (fs.lookup f).bind fun v => match v with
    | .d (.list ds) => some (.list ds, x.2)
    | _ => none
    else none
  | _ => none
end DV

namespace DV
open PySem L2 PySem.Spec PyProof.Rows
/-! ### and, or, not as values, over the world -/
def mAndV (f g : ME) : ME := fun ρ w => (f ρ w).bind fun x => (truth x.1).bind fun k => if k = true then g ρ x.2 else some x
def mOrV (f g : ME) : ME := fun ρ w => (f ρ w).bind fun x => (truth x.1).bind fun k => if k = true then some x else g ρ x.2
def mNotV (f : ME) : ME := fun ρ w => (f ρ w).bind fun x => (truth x.1).map fun k => (.bool !k, x.2)
section
variable {cl : Str → Addr} {X : Cx} {m : Md} {a b e : Expr} {rest : List Expr} {f g : ME} {pos : Pos}
theorem m_one {op} (h : DM cl X m a f) : DM cl X m (.BoolOp op [a] pos) f := ⟨pe_one h.pe⟩
theorem m_and (ha : DM cl X .val a f) (hb : DM cl X .val (.BoolOp .And (b :: rest) pos) g) : DM cl X .val (.BoolOp .And (a :: b :: rest) pos) (mAndV f g) :=
  ⟨(pe_andT ha.pe hb.pe).imp fun σ H Q ⟨F, H0, G, ρ, w, α, d, w', s, e, q⟩ => by
    obtain ⟨⟨d1, w1⟩, e1, e⟩ := bind_some e
    obtain ⟨k1, e2, e⟩ := bind_some e
    refine ⟨F, H0, G, ρ, w, α, d1, w1, s, e1, fun G' H' α' v n s' r => ⟨k1, truth_ok s'.gh (.val r.1) e2, ?_⟩⟩
    cases k1 with
    | true => exact iteT ⟨F, H0, G', ρ, w1, α', d, w', s', e, fun G2 H2 α2 v n2 s2 r2 => q G2 H2 α2 v (n.trans n2) s2 (.val r2.1)⟩
    | false => cases e; exact iteF (q G' H' α' v n s' (.val r.1))⟩
end
/-! ### lent operands -/
def tMB (K : PySem.W.Frag) (cl : Str → Addr) (f : ME) : L2.TE := fun σ H Q => ∃ F H0 G ρ w α d w', Nok K cl F H0 G ρ σ H w α ∧ f ρ w = some (d, w') ∧ ∀ G' H' α' v, Nx G H w α G' H' w' α' → Nok K cl F H0 G' ρ σ H' w' α' → RepB K G' (hideW H' (dom α' w')) d v → Q v H'
structure DMB (cl : Str → Addr) (X : Cx) (e : Expr) (f : ME) : Prop where
  pe : PE X e (tMB X.K cl f)
section
variable {cl : Str → Addr} {X : Cx} {m : Md} {a b e : Expr} {f g : ME} {pos p : Pos} {x : Str}
theorem mb_v (h : DM cl X .val e f) : DMB cl X e f := ⟨h.pe.imp fun σ H Q ⟨F, H0, G, ρ, w, α, d, w', s, e, q⟩ => ⟨F, H0, G, ρ, w, α, d, w', s, e, fun G' H' α' v n s' r => q G' H' α' v n s' (.val r.1)⟩⟩
theorem mb_var (i : Nat) (hN : X.N[i]? = some x := by rfl) (hv : Vis X.env.scope x := by first | exact Or.inl rfl | exact Or.inr (Or.inl rfl) | exact Or.inr (Or.inr rfl)) (hd : (x == ("__debug__" : Str)) = false := by decide)
    (hcd : (x == ("__classdict__" : Str)) = false := by decide) : DMB cl X (.Name x p) (mL (eB i)) :=
  ⟨(pe_var hN hv hd hcd).imp fun σ H Q ⟨F, H0, G, ρ, w, α, d, w', s, e, q⟩ => by
    obtain ⟨d', ed, e4⟩ := map_some e
    cases e4
    obtain ⟨v, e5, rb⟩ := bor_slot s ed
    exact ⟨v, e5, q G H α v .refl s rb⟩⟩
theorem op_twoB {r : R2} {F : PyData → PyData → Option PyData} (hF : OpF X.K m r F) (hm : MN m) {σ : L2.St} {H : Hp} {Q : VK} (q : tM X.K cl m (mOp F f g) σ H Q) : tOp r (tMB X.K cl f) (tMB X.K cl g) σ H Q := by
  obtain ⟨Fr, H0, G, ρ, w, α, d, w', s, e, q⟩ := q
  obtain ⟨⟨x, w1⟩, e1, e⟩ := bind_some e
  obtain ⟨⟨y, w2⟩, e2, e⟩ := bind_some e
  obtain ⟨d', hd, e3⟩ := map_some e
  cases e3
  refine ⟨Fr, H0, G, ρ, w, α, x, w1, s, e1, fun G1 H1 α1 v1 n1 s1 r1 => ⟨Fr, H0, G1, ρ, w1, α1, y, w2, s1, e2, fun G2 H2 α2 v2 n2 s2 r2 => ?_⟩⟩
  refine hF G2 H2 x y d v1 v2 Q s2.gh (RepB.mono n2.g (n2.h.trans hideW_le) r1) (RepB.mono (Ex.refl _) hideW_le r2) hd fun G3 H3 v gx r3 => ?_
  have n12 := n1.trans n2
  exact q G3 H3 α2 v (n12.trans (.gx gx)) (s2.gx' gx) ((RN.of hm s2.ww (r3 (fun _ => none))).start hm fun p hp => n12.dom' s2.ww s2.gh hp)
theorem m_opB {op : Operator} {r : R2} {F : PyData → PyData → Option PyData} (ho : OpR X (binaryOp op) r) (hF : OpF X.K m r F) (ha : DMB cl X a f) (hb : DMB cl X b g) (hm : MN m := by first | exact .inl rfl | exact .inr rfl) : DM cl X m (.BinOp a op b pos) (mOp F f g) :=
  ⟨(pe_op ho ha.pe hb.pe).imp fun _ _ _ q => op_twoB hF hm q⟩
theorem m_cmpB {op : CmpOp} {r : R2} {F : PyData → PyData → Option PyData} (ho : OpR X (compareOp op) r) (hF : OpF X.K .val r F) (ha : DMB cl X a f) (hb : DMB cl X b g) (hm : behindInMarks op b = false) : DM cl X .val (.Compare a [op] [b] pos) (mOp F f g) :=
  ⟨(pe_cmpR ho ha.pe hb.pe hm).imp fun _ _ _ q => op_twoB hF (.inl rfl) q⟩
theorem mt_cmpB {op : CmpOp} {r : R2} {F : PyData → PyData → Option PyData} (ho : OpR X (compareOp op) r) (hF : OpF X.K .val r F) (ha : DMB cl X a f) (hb : DMB cl X b g) (hm : behindInMarks op b = false) : DTM cl X (.Compare a [op] [b] pos) (mT (mOp F f g)) :=
  ⟨(pt_cmpR ho ha.pe hb.pe hm).imp (tTestM_of fun _ _ _ q => op_twoB hF (.inl rfl) q)⟩
theorem m_ixB (ha : DMB cl X a f) (hb : DMB cl X b g) (hs : PlainIx b := by intro _ _; rfl) : DM cl X .val (.Subscript a b pos) (mOp oIx f g) :=
  ⟨(pe_ix ix_seq ha.pe hb.pe hs).imp fun _ _ _ q => op_twoB opf_ix (.inl rfl) q⟩
end
end DV

namespace DV
open PySem L2
/-! ### reckoning, over the world -/
section
variable {ρ ρ' : Rho} {w w1 w2 w3 : Wd} {d : PyData} {k n h : Nat} {s : Slot} {f : SE} {fs : SS} {t : SB} {a b : ME} {q : MQ} {u v : MB} {r r2 : MA} {x : WV}
@[simp] theorem unD_nil : unD [] = [] := rfl
@[simp] theorem unD_d {l : List WV} : unD (.d d :: l) = d :: unD l := rfl
@[simp] theorem mL_r : mL f ρ w = (f ρ).map fun d => (d, w) := rfl
@[simp] theorem mLB_r : mLB t ρ w = (t ρ).map fun d => (d, w) := rfl
@[simp] theorem mOp_r {F : PyData → PyData → Option PyData} : mOp F a b ρ w = (a ρ w).bind fun x => (b ρ x.2).bind fun y => (F x.1 y.1).map fun d => (d, y.2) := rfl
@[simp] theorem mUn_r {F : PyData → Option PyData} : mUn F a ρ w = (a ρ w).bind fun x => (F x.1).map fun d => (d, x.2) := rfl
@[simp] theorem mT_r : mT a ρ w = (a ρ w).bind fun x => (asB x.1).map fun b => (b, x.2) := rfl
@[simp] theorem mV_r : mV a ρ w = (a ρ w).bind fun x => (truth x.1).map fun b => (b, x.2) := rfl
@[simp] theorem mNot_r : mNot u ρ w = (u ρ w).map fun x => (!x.1, x.2) := rfl
@[simp] theorem mAndB_r : mAndB u v ρ w = (u ρ w).bind fun x => if x.1 = true then v ρ x.2 else some (false, x.2) := rfl
@[simp] theorem mOrB_r : mOrB u v ρ w = (u ρ w).bind fun x => if x.1 = true then some (true, x.2) else v ρ x.2 := rfl
@[simp] theorem mIte_r : mIte u a b ρ w = (u ρ w).bind fun x => if x.1 = true then a ρ x.2 else b ρ x.2 := rfl
@[simp] theorem maNil_r : maNil ρ w = some ([], w) := rfl
@[simp] theorem maD_r : maD a r ρ w = (a ρ w).bind fun x => (r ρ x.2).map fun y => (.d x.1 :: y.1, y.2) := rfl
@[simp] theorem mF_r {F : List PyData → Option PyData} : mF F r ρ w = (r ρ w).bind fun x => (F (unD x.1)).map fun d => (d, x.2) := rfl
@[simp] theorem mFK_r {F : List PyData → Option PyData} {dd : List PyData} : mFK F r r2 dd ρ w = (r ρ w).bind fun a => (r2 ρ a.2).bind fun b => (F (unD a.1 ++ (unD b.1 ++ dd))).map fun d => (d, b.2) := rfl
@[simp] theorem mQ_r : mQ a ρ w = (a ρ w).map fun x => (.d x.1, x.2) := rfl
@[simp] theorem mQR_r {fr : MR} : mQR fr ρ w = (fr ρ w).map fun x => (.r x.1, x.2) := rfl
theorem mD_eq (e : q ρ w = some (.d d, w1)) : mD q ρ w = some (d, w1) := by unfold mD; rw [e]; rfl
@[simp] theorem mRv_0 : mR (mVar 0) (.st h :: ρ) w = some (h, w) := rfl
@[simp] theorem mRv_s : mR (mVar (k + 1)) (s :: ρ) w = mR (mVar k) ρ w := rfl
@[simp] theorem mAndV_r : mAndV a b ρ w = (a ρ w).bind fun x => (truth x.1).bind fun k => if k = true then b ρ x.2 else some x := rfl
@[simp] theorem mOrV_r : mOrV a b ρ w = (a ρ w).bind fun x => (truth x.1).bind fun k => if k = true then some x else b ρ x.2 := rfl
@[simp] theorem mNotV_r : mNotV a ρ w = (a ρ w).bind fun x => (truth x.1).map fun k => (.bool !k, x.2) := rfl
/-- statements -/
theorem mS_nx (e : fs ρ = some (.nx ρ')) : mS fs ρ w = some (.nx ρ', w) := by unfold mS; rw [e]
theorem mseq_nx {f g : MS} (e : f ρ w = some (.nx ρ', w1)) : mSeq f g ρ w = g ρ' w1 := by unfold mSeq; rw [e]; rfl
theorem mseq_s {g : MS} (e : fs ρ = some (.nx ρ')) : mSeq (mS fs) g ρ w = g ρ' w := mseq_nx (mS_nx e)
@[simp] theorem mNext_r : mNext ρ w = some (.nx ρ, w) := rfl
@[simp] theorem mIf_r {f g : MS} : mIf u f g ρ w = (u ρ w).bind fun x => if x.1 = true then f ρ x.2 else g ρ x.2 := rfl
@[simp] theorem mSet_r : mSet k a ρ w = (a ρ w).bind fun x => if k < ρ.length then some (.nx (ρ.set k (.val x.1)), x.2) else none := rfl
@[simp] theorem mOwn_r : mOwn k a ρ w = (a ρ w).bind fun x => if k < ρ.length then some (.nx (ρ.set k (.own x.1)), x.2) else none := rfl
@[simp] theorem mAny_r : mAny k q ρ w = (q ρ w).bind fun x => if k < ρ.length then some (.nx (ρ.set k (slotV x.1)), x.2) else none := rfl
@[simp] theorem mAsg_r {g : SG} : mAsg a g ρ w = (a ρ w).bind fun x => (g x.1 ρ).map fun ρ' => (.nx ρ', x.2) := rfl
@[simp] theorem mRet_r : mRet a ρ w = (a ρ w).map fun x => (.rt (.d x.1), x.2) := rfl
theorem mSet_eq (e : a ρ w = some (d, w1)) (hk : k < ρ.length) : mSet k a ρ w = some (.nx (ρ.set k (.val d)), w1) := by rw [mSet_r, e]; exact if_pos hk
theorem mIf_f {f g : MS} (e : u ρ w = some (false, w1)) : mIf u f g ρ w = g ρ w1 := by rw [mIf_r, e]; rfl
theorem mIf_t {f g : MS} (e : u ρ w = some (true, w1)) : mIf u f g ρ w = f ρ w1 := by rw [mIf_r, e]; rfl
theorem mFor_eq {fi : MI} {g : SG} {b : MS} {ds : List PyData} (e : fi ρ w = some (ds, w1)) : mFor fi g b ρ w = mForGo g b ds ρ w1 := by unfold mFor; rw [e]; rfl
theorem mArgsI_eq {F : List PyData → Option (List PyData)} {l : List WV} {ds : List PyData} (e : r ρ w = some (l, w1)) (e2 : F (unD l) = some ds) : mArgsI F r ρ w = some (ds, w1) := by unfold mArgsI; rw [e, Option.bind_some, e2]; rfl
theorem mSeqI_eq {l : List PyData} (e : a ρ w = some (d, w1)) (e2 : itemsOf d = some l) : mSeqI a ρ w = some (l, w1) := by unfold mSeqI; rw [e, Option.bind_some, e2]; rfl
theorem mForGo_one {g : SG} {b : MS} {ds : List PyData} {ρ1 : Rho} (e1 : g d ρ = some ρ1) (e2 : b ρ1 w = some (.nx ρ', w1)) : mForGo g b (d :: ds) ρ w = mForGo g b ds ρ' w1 := by
  rw [mForGo, e1, Option.bind_some, e2]; rfl
theorem boxW_rt {rk : RK} {ms : List AK} {f : MS} {ds : List WV} (h1 : ds.length = ms.length) (h2 : f (slotsW ms ds ++ List.replicate (n - ds.length) .un) w = some (.rt x, w1)) : box (runW n rk ms f) ds w = some (x, w1) := by
  rw [box_eq]; unfold runW; rw [if_pos h1, h2]; rfl
theorem boxO_rt {m : Md} {ms : List AK} {f : MS} {ds : List PyData} (h1 : ds.length = ms.length) (h2 : f (slotsW ms (ds.map .d) ++ List.replicate (n - ds.length) .un) [] = some (.rt (.d d), w1)) : box (outD (runW n (.md m) ms f)) ds = some d := by
  rw [box_eq]; unfold outD runW; rw [if_pos (by rw [List.length_map]; exact h1), List.length_map, h2]; rfl
end
end DV

namespace DV
open PySem L2 PySem.Spec PyProof.Rows
/-! ### methods of texts, over the world -/
def mBm (F : PyData → List PyData → Option PyData) (f : ME) (r : MA) : ME := fun ρ w => (f ρ w).bind fun x => (r ρ x.2).bind fun y => (F x.1 (unD y.1)).map fun d => (d, y.2)
@[simp] theorem mBm_r {F : PyData → List PyData → Option PyData} {f : ME} {r : MA} {ρ : Rho} {w : Wd} : mBm F f r ρ w = (f ρ w).bind fun x => (r ρ x.2).bind fun y => (F x.1 (unD y.1)).map fun d => (d, y.2) := rfl
section
variable {cl : Str → Addr} {X : Cx} {m : Md} {a e : Expr} {es : List Expr} {f : ME} {t : MA} {ms : List AK} {mm : List Md} {pos apos : Pos} {name : Str} {id : String}
def oRfind4 (a : PyData) (ds : List PyData) : Option PyData := match a, ds with
  | .str x, [.str y, .int i, .int j] => some (.int (Txt.rfindIn x y i j))
  | _, _ => none
end
end DV

namespace DV
open PySem L2 PySem.Spec PyProof.Rows
/-! ### list(range(..)) -/
def eLR1 (f : SE) : SE := fun ρ => (f ρ).bind fun x => match x with
  | .int n => if -1000000 ≤ n ∧ n ≤ 1000000 then some (.list (rangeD 0 n.toNat)) else none
  | _ => none
def eLR2 (f g : SE) : SE := fun ρ => (f ρ).bind fun x => (g ρ).bind fun y => match x, y with
  | .int a, .int b => if (-1000000 ≤ a ∧ a ≤ 1000000) ∧ (-1000000 ≤ b ∧ b ≤ 1000000) then some (.list (rangeD a (b - a).toNat)) else none
  | _, _ => none
section
variable {X : Cx} {a b : Expr} {f g : SE} {p p2 pos pos2 : Pos} {ρ : Rho}
end
end DV

namespace DV
open PySem L2 PySem.Spec PyProof.Rows
/-! ### instances made with defaults between the keywords -/
def mMake2 (c : Str) (Fn : MF) (dA dB : List WV) (r r2 : MA) : MR := fun ρ w => (r ρ w).bind fun a => (r2 ρ a.2).bind fun b => (Fn (.r b.2.length :: (a.1 ++ (dA ++ (b.1 ++ dB)))) (b.2 ++ [.ins c []])).bind fun y => match y.1 with
  | .d .none => some (b.2.length, y.2)
  | _ => none
def MakeW2 (P : Program) (w : World) (K : PySem.W.Frag) (mg : Str → Option Value) (base : Heap) (cl : Str → Addr) (c x : Str) (ps : List Str) (k : Nat) (ms : List AK) (F : MF) (n : Nat) (ks : List Str) (dA dB : List V) : Prop :=
  ∃ (f : Addr) (fd : FuncData) (g : List Value → List Value → List Value), FnOk P w K mg base CX0 k f fd ps (spW K cl (.md .val) (.q :: ms) F) ∧ Mk K (cl c) f ∧ mg x = some (.ref (cl c)) ∧ KBn K fd ps (n + 1) ks g (fun vs zs => vs ++ (dA ++ (zs ++ dB)))
section
variable {cl : Str → Addr} {X : Cx} {e : Expr} {es : List Expr} {kws : List Keyword} {ms1 ms2 msA msB : List AK} {r r2 : MA} {p pos : Pos} {c x : Str} {k n : Nat} {ps ks : List Str} {Fn : MF} {dA dB : List V} {wA wB : List WV}
end
end DV

namespace DV
open PySem L2 PySem.Spec PyProof.Rows
/-! ### tables that the module's top has written -/
def leafV : PyData → V
  | .int i => .int i
  | .str x => .str x
  | .bool b => .bl b
  | _ => .non
def isLeaf : PyData → Bool
  | .int _ => true
  | .str _ => true
  | .bool _ => true
  | .none => true
  | _ => false
/-- a tuple of the top -/
def KTup (K : PySem.W.Frag) (q : Addr) (vs : List V) : Prop := ∃ o its n, K.lookup q = some o ∧ o.cls = Value.type "tuple" ∧ o.data = Data.seq its n ∧ its.size ≤ sizeLine ∧ Vals vs its.toList
theorem KTup.of {K : PySem.W.Frag} {q : Addr} {vs : List V} {od : Option Addr} {its : Array Value} {n : Nat} {sl : Array (Option Value)} (h : K.lookup q = some ⟨.type "tuple", od, .seq its n, sl⟩) (v : Vals vs its.toList) (hz : vs.length ≤ 1000) : KTup K q vs := by
  refine ⟨_, its, n, h, rfl, rfl, ?_, v⟩
  have : ∀ {vs : List V} {us : List Value}, Vals vs us → us.length = vs.length := by
    intro vs us h
    induction h with
    | nil => rfl
    | cons _ _ ih => exact congrArg (· + 1) ih
  have := this v
  rw [Array.length_toList] at this
  rw [sizeLine_eq]; omega
def StrKeys (P : Params) : List DictEntry → List Str → Prop
  | [], [] => True
  | e :: r, k :: ks => (∃ t, e.key = .str k t ∧ e.hash = PyData.keyHash P k) ∧ StrKeys P r ks
  | _, _ => False
theorem StrKeys.lit {P : Params} : ∀ {es : List DictEntry} {ks : List Str}, StrKeys P es ks → PySem.W.KeysLit P es
  | [], [], _ => trivial
  | _ :: _, _ :: _, ⟨⟨t, h1, h2⟩, r⟩ => ⟨⟨_, t, h1, h2⟩, r.lit⟩
  | [], _ :: _, h => h.elim
  | _ :: _, [], h => h.elim
theorem StrKeys.len {P : Params} : ∀ {es : List DictEntry} {ks : List Str}, StrKeys P es ks → es.length = ks.length
  | [], [], _ => rfl
  | _ :: _, _ :: _, ⟨_, r⟩ => congrArg (· + 1) r.len
  | [], _ :: _, h => h.elim
  | _ :: _, [], h => h.elim
theorem StrKeys.at {P : Params} : ∀ {es : List DictEntry} {ks : List Str}, StrKeys P es ks → ∀ (j : Nat) (e : DictEntry), es[j]? = some e → ∃ k t, ks[j]? = some k ∧ e.key = .str k t
  | [], [], _, j, e, he => by simp at he
  | x :: es, k :: ks, ⟨⟨t, h1, h2⟩, r⟩, 0, e, he => by
    have : x = e := by simpa using he
    subst this
    exact ⟨k, t, rfl, h1⟩
  | x :: es, k :: ks, ⟨_, r⟩, j + 1, e, he => by
    obtain ⟨k', t, a, b⟩ := r.at j e (by simpa using he)
    exact ⟨k', t, by simpa using a, b⟩
  | [], _ :: _, h, _, _, _ => h.elim
  | _ :: _, [], h, _, _, _ => h.elim
/-- a dict of the top, by its keys -/
structure KDc (K : PySem.W.Frag) (w : World) (a : Addr) (ks : List Str) : Prop where
  lit : ∃ es n, K.lookup a = some ⟨.type "dict", none, .dict es n, #[]⟩ ∧ StrKeys w.params es.toList ks
  low : (a == sysModules) = false
theorem KDc.at {K : PySem.W.Frag} {w : World} {a : Addr} {ks : List Str} (h : KDc K w a ks) {z : Str} {u : Value} {v : V} (hu : PySem.W.nsIn K a z = some (some u)) (r : RelV v u) : KDct K w a z v := by
  obtain ⟨⟨es, n, h1, h2⟩, _⟩ := h
  exact ⟨es, n, u, h1, h2.lit, hu, r⟩
/-- a table of leaves, of tuples -/
def GLeaf (K : PySem.W.Frag) (w : World) (mg : Str → Option Value) (x : Str) (tab : List (Str × PyData)) : Prop := ∃ a, mg x = some (.ref a) ∧ ∀ p ∈ tab, isLeaf p.2 = true ∧ KDct K w a p.1 (leafV p.2)
def GTups (K : PySem.W.Frag) (w : World) (mg : Str → Option Value) (x : Str) (tab : List (Str × List PyData)) : Prop := ∃ a, mg x = some (.ref a) ∧ ∀ p ∈ tab, (∀ d ∈ p.2, isLeaf d = true) ∧ ∃ q, KDct K w a p.1 (.ref q) ∧ KTup K q (p.2.map leafV)
def GHas (K : PySem.W.Frag) (w : World) (mg : Str → Option Value) (x : Str) (yes no : List Str) : Prop := ∃ a ks, mg x = some (.ref a) ∧ KDc K w a ks ∧ (∀ z ∈ yes, ∃ u, PySem.W.nsIn K a z = some (some u)) ∧ ∀ z ∈ no, PySem.W.nsIn K a z = some none
def GTup (K : PySem.W.Frag) (mg : Str → Option Value) (x : Str) (l : List PyData) : Prop := ∃ q, mg x = some (.ref q) ∧ (∀ d ∈ l, isLeaf d = true) ∧ KTup K q (l.map leafV)
def GKeys (K : PySem.W.Frag) (w : World) (mg : Str → Option Value) (x : Str) (ks : List Str) : Prop := ∃ a, mg x = some (.ref a) ∧ KDc K w a ks
def eKGet (tab : List (Str × PyData)) (f : SE) : SE := fun ρ => (f ρ).bind fun y => match y with
  | .str z => tab.lookup z
  | _ => none
def eKHas (yes no : List Str) (f : SE) : SE := fun ρ => (f ρ).bind fun y => match y with
  | .str z => if z ∈ yes then some (.bool true) else if z ∈ no then some (.bool false) else none
  | _ => none
def strsOf : List PyData → Option (List Str)
  | [] => some []
  | .str z :: r => (strsOf r).map (z :: ·)
  | _ => none
/-- x in a tuple of texts -/
def oInStrs (l : List Str) : PyData → Option PyData
  | .str z => some (.bool (decide (z ∈ l)))
  | _ => none
def eKInT (l : List Str) (f : SE) : SE := fun ρ => (f ρ).bind (oInStrs l)
def eKInG (tab : List (Str × List Str)) (f g : SE) : SE := fun ρ => (f ρ).bind fun x => (g ρ).bind fun y => match y with
  | .str z => (tab.lookup z).bind fun l => oInStrs l x
  | _ => none
def sKAsg (tab : List (Str × List PyData)) (f : SE) (n : Nat) (g : SGs) : SS := fun ρ => (f ρ).bind fun y => match y with
  | .str z => (tab.lookup z).bind fun l => if l.length = n then (g l ρ).map .nx else none
  | _ => none
section
variable {X : Cx} {a b e : Expr} {f g : SE} {x : Str} {p p2 p3 pos : Pos} {tab : List (Str × PyData)} {tabS : List (Str × List Str)} {tabT : List (Str × List PyData)} {yes no ks ys l : List Str} {rm : Md}
end
section
variable {X : Cx}
end
end DV

namespace DV
open PySem L2 PySem.Spec PyProof.Rows
/-! ### tests with tables of the top; list(script) -/
section
variable {X : Cx} {a b e : Expr} {f g : SE} {x : Str} {p p2 p3 pos : Pos} {tabS : List (Str × List Str)} {yes no l : List Str}
/-- list(script) -/
theorem d_listS (ha : DX X .scr a f) (hm : X.mg "list" = none) (hg : Gl X "list" := by rfl) (he : starEach [a] X.env = (false, eval a X.env) :: starEach [] X.env := by rfl) (hpl : (backTo pos (starEach [] X.env)).any (·.1) = false := by rfl) :
    DX X .new (.Call (.Name "list" p) [a] [] pos) (eCall cList (aCons f aNil)) :=
  ⟨(pe_callTy call_list_of hg hm PyProof.Rows.boot_list (pa_cons ha.pe pa_nil he) (by decide) (by decide) he hpl).imp fun σ H Q ⟨G0, H0, G, ρ, d, s, ed, q⟩ => by
    obtain ⟨ds, e1, e2⟩ := bind_some ed
    obtain ⟨d1, e3, e4⟩ := bind_some e1
    obtain ⟨_, e5, e6⟩ := bind_some e4
    cases e5
    cases e6
    refine ⟨G0, H0, G, ρ, d1, s, e3, fun G1 H1 v gx r => ?_⟩
    rcases r with ⟨b, ns, rfl, rfl, hq⟩ | ⟨b, rfl, rfl, hk⟩
    rotate_left
    · cases e2
      exact ⟨b, _, rfl, .inr (.inr hk), fun p np => newList (.inr rfl) gx.gh np .nil fun G' H' v gx' r' => q G' H' v (gx.trans gx') ((r' H0).start gx.h)⟩
    cases e2
    exact ⟨b, _, rfl, .inl hq, fun p np => newList (.inr rfl) gx.gh np (RepA.ints ns) fun G' H' v gx' r' => q G' H' v (gx.trans gx') ((r' H0).start gx.h)⟩⟩
end
end DV

namespace DV
open PySem L2
/-! ### reckoning: lists of the world -/
section
variable {ρ ρ' : Rho} {w w1 w2 w3 : Wd} {d : PyData} {k n h : Nat} {i : Int} {a b : ME} {q : MQ} {fr : MR} {r : MA} {x z : WV} {l l' args : List WV}
@[simp] theorem maQ_r : maQ q r ρ w = (q ρ w).bind fun x => (r ρ x.2).map fun y => (x.1 :: y.1, y.2) := rfl
theorem mIx_eq (e : fr ρ w = some (h, w1)) (e2 : b ρ w1 = some (.int i, w2)) (e3 : w2[h]? = some (.lst l)) (e4 : atI l i = some z) : mIx fr b ρ w = some (z, w2) := by
  unfold mIx; rw [e, Option.bind_some]; simp only []; rw [e2, Option.bind_some]; simp only [e3]; rw [e4]; rfl
theorem mIxD_eq (e : fr ρ w = some (h, w1)) (e2 : b ρ w1 = some (.int i, w2)) (e3 : w2[h]? = some (.lst l)) (e4 : atI l i = some (.d d)) : mD (mIx fr b) ρ w = some (d, w2) := mD_eq (mIx_eq e e2 e3 e4)
theorem mIxR_eq (e : fr ρ w = some (h, w1)) (e2 : b ρ w1 = some (.int i, w2)) (e3 : w2[h]? = some (.lst l)) (e4 : atI l i = some (.r n)) : mR (mIx fr b) ρ w = some (n, w2) := by
  unfold mR; rw [mIx_eq e e2 e3 e4]; rfl
theorem mLenL_eq (e : fr ρ w = some (h, w1)) (e3 : w1[h]? = some (.lst l)) : mLenL fr ρ w = some (.int l.length, w1) := by
  unfold mLenL; rw [e, Option.bind_some]; simp only [e3]
theorem mPutI_eq (e0 : q ρ w = some (x, w1)) (e : fr ρ w1 = some (h, w2)) (e2 : b ρ w2 = some (.int i, w3)) (e3 : w3[h]? = some (.lst l)) (e4 : ixN l.length i = some k) : mPutI fr b q ρ w = some (.nx ρ, w3.set h (.lst (l.set k x))) := by
  unfold mPutI; rw [e0, Option.bind_some]; simp only []; rw [e, Option.bind_some]; simp only []; rw [e2, Option.bind_some]; simp only [e3]; rw [e4]; rfl
theorem mMth_eq {Fn : List WV → List WV → Option (WV × List WV)} {l0 : List WV} (e : fr ρ w = some (h, w1)) (e1 : w1[h]? = some (.lst l0)) (e2 : r ρ w1 = some (args, w2)) (e3 : w2[h]? = some (.lst l)) (e4 : Fn l args = some (x, l')) : mMth Fn fr r ρ w = some (x, w2.set h (.lst l')) := by
  unfold mMth; rw [e, Option.bind_some]; simp only [e1]; rw [e2, Option.bind_some]; simp only [e3]; rw [e4]; rfl
theorem mCall_eq {Fn : MF} (e : r ρ w = some (args, w1)) (e2 : Fn args w1 = some (.d d, w2)) : mCall Fn r ρ w = some (d, w2) := by
  unfold mCall; rw [e, Option.bind_some]; simp only []; rw [e2]; rfl
theorem mNewL_eq (e : r ρ w = some (l, w1)) (hl : l.length ≤ 1000) : mNewL r ρ w = some (w1.length, w1 ++ [.lst l]) := by
  unfold mNewL; rw [e, Option.bind_some]
  exact if_pos (by rw [sizeLine_eq]; show l.length ≤ _; omega)
theorem mMk_eq {ds : List PyData} (e : a ρ w = some (.list ds, w1)) : mMk a ρ w = some (w1.length, w1 ++ [.lst (ds.map .d)]) := by
  unfold mMk; rw [e]; rfl
@[simp] theorem mVq_0s : mVar 0 (.st h :: ρ) w = some (.r h, w) := rfl
@[simp] theorem mVq_s {s : Slot} : mVar (k + 1) (s :: ρ) w = mVar k ρ w := rfl
@[simp] theorem mTup_r : mTup r ρ w = (r ρ w).bind fun x => if (unD x.1).length ≤ sizeLine then some (.tuple (unD x.1), x.2) else none := rfl
@[simp] theorem mLst_r : mLst r ρ w = (r ρ w).bind fun x => if (unD x.1).length ≤ sizeLine then some (.list (unD x.1), x.2) else none := rfl
end
end DV

namespace DV
open PySem L2 PySem.Spec PyProof.Rows
/-! ### a text in a tuple of texts; == of texts -/
def oInF (a b : PyData) : Option PyData := match a, b with
  | .str z, .tuple ds => (strsOf ds).map fun l => .bool (decide (z ∈ l))
  | _, _ => none
theorem clean_s {x : Str} (h : PyData.strOk x = true) : clean 9 (.str x) = true := by simpa [clean] using h
theorem oEq_s {x y : Str} (hx : PyData.strOk x = true) (hy : PyData.strOk y = true) : oEq (.str x) (.str y) = some (.bool (decide (x = y))) := by
  rw [oEq_c (clean_s hx) (clean_s hy), eqv_dec (clean_s hx) (clean_s hy) (x = y) (by simp)]
end DV

namespace DV
open PySem L2 PySem.Spec PyProof.Rows
open Classical
/-! ### code tables -/
def isTab (x : Str) : WO → Bool
  | .tab y => decide (y = x)
  | _ => false
def hasTab (x : Str) (w : Wd) : Bool := w.any (isTab x)
/-- all(test of a sign for sign in e), any(..) -/
def mAllT (x : Str) (pb : Nat → Bool) (f : ME) : ME := fun ρ w => (f ρ w).bind fun v => match v.1 with
  | .str a => if hasTab x v.2 = true then some (.bool (a.cps.toList.all pb), v.2) else none
  | _ => none
def mAnyT (x : Str) (pb : Nat → Bool) (f : ME) : ME := fun ρ w => (f ρ w).bind fun v => match v.1 with
  | .str a => if hasTab x v.2 = true then some (.bool (a.cps.toList.any pb), v.2) else none
  | _ => none
section
variable {K : PySem.W.Frag} {cl : Str → Addr} {F : Fr} {H0 G H H2 : Hp} {ρ : Rho} {σ : L2.St} {w : Wd} {α : Pl} {x : Str}
end
section
variable {cl : Str → Addr} {X : Cx} {elt iter : Expr} {x : Str} {px p pos gpos : Pos} {scope : Scope} {pb : Nat → Bool} {f : ME} {k : Nat} {c : Addr} {nm : Str}
end
/-! ### tests of a sign -/
def signRng (lo hi : Str) (c : Nat) : Bool := !decide ([c] < lo.cps.toList) && !decide (hi.cps.toList < [c])
/-! ### a def with its code -/
/-! ### the end -/
/-- the end of a law with tables, the top's facts at hand -/
theorem walk_T {l : PySem.W.OpenLaw} {n k : Nat} {q : Program} {loose : List Str} {XP : (Str → Option Value) → Heap → Prop} {YP : World → Heap → Prop} {d : DefRec} {K : Params → PySem.W.Frag} {CX : World → CXT} {x : Str}
    (hn : l.most = some n) (hn2 : n ≤ sizeLine) (hdf : d.params.defaults = []) (hr : Room k callerA) (hY : ∀ (w : World) (h : Heap), YP w h → (K w.params).In h)
    (F : ∀ (w : World) (mg mb : Str → Option Value) (mean : ExcName → Option Value) (lo : List Str) (fa : Addr) (h : Heap), Top q lo mean mg mb h → (K w.params).In h → h.Ns mainGlobals mg → mg d.name = some (.ref fa) → LamX.LawAtS l w (K w.params) (CX w) k n x mg fa h)
    (hCX : ∀ (w : World) (H : Hp) (s : Shared) (e : Value) (s' : Shared), CX w [] H s (fun _ _ _ => False) e s' → False) :
    PySem.W.WalkO q loose XP YP l.row.toRowW d [] (fun f vs => PySem.call f vs) := by
  refine Att.attach_callB hn hdf fun w s₀ s₁ mg mb fa o pm cd doc a vs ns G Y ho hd hcd hmg hobj hints hlen hbits hg => ?_
  have KX := hY w _ Y
  obtain ⟨fd, cs, sp, hT, nT, C, hb, hsp, hF⟩ := F w mg mb _ _ fa _ G.T KX G.T.g hmg
  exact LamX.law_callTs KX G.T.g G.T.b G.T.builtins G.T.nolimit hg hT nT C G.T.bmain hobj hints (Nat.le_trans hlen hn2) hr hF hb (fun H hH hS => hsp H a ns hlen hbits hH hS) fun H e s' => hCX w H s₁ e s'
end DV

namespace DV
open PySem L2 PySem.Spec PyProof.Rows
/-! ### tuple(x), join, not in a tuple of texts -/
section
variable {K : PySem.W.Frag}
def cTuple : List PyData → Option PyData
  | [.list l] => some (.tuple l)
  | [.tuple l] => some (.tuple l)
  | _ => none
@[simp] theorem cTuple_l {l : List PyData} : cTuple [.list l] = some (.tuple l) := rfl
@[simp] theorem cTuple_t {l : List PyData} : cTuple [.tuple l] = some (.tuple l) := rfl
def oJoin (a : PyData) (ds : List PyData) : Option PyData := match a, ds with
  | .str x, [.list l] => (strsOf l).bind fun ys => if (ys.map (·.length)).sum + ys.length * x.length ≤ 16777216 then some (.str (Txt.join x ys)) else none
  | .str x, [.tuple l] => (strsOf l).bind fun ys => if (ys.map (·.length)).sum + ys.length * x.length ≤ 16777216 then some (.str (Txt.join x ys)) else none
  | _, _ => none
def oNotInF (a b : PyData) : Option PyData := match a, b with
  | .str z, .tuple ds => (strsOf ds).map fun l => .bool (!decide (z ∈ l))
  | _, _ => none
end
end DV

namespace DV
open PySem L2 PySem.Spec PyProof.Rows
open Classical
/-! ### data dicts, over the world -/
section
variable {cl : Str → Addr} {X : Cx} {rk : RK} {m : Md} {a b e o : Expr} {f g : ME} {fr : MR} {fq : MQ} {r : MA} {pos p p1 : Pos} {k : Nat} {x : Str}
end
end DV

namespace DV
open PySem PyProof.Rows HT
open PySem.SeqAt
open PySem.AutoSeq1 (wpAny_loadPart')
open PySem.MeetsSeq PySem.MeetsSeq2 PySem.MeetsSeq3
/-! ### t[::-1] of a tuple -/
section
variable {prog : Program} {w : World} {A : Around} {E : Value → Shared → Prop} {s : Shared}
end
end DV
namespace DV
open PySem L2 PySem.Spec PyProof.Rows
section
variable {X : Cx}
/-- t[::-1]: a new tuple -/
def tRevT (K : PySem.W.Frag) (te : TE) : TE := fun σ H Q => te σ H fun x H1 => ∃ a xs, x = .ref a ∧ SqT K H1 a xs ∧ ∀ p, H1 p = none → Q (.ref p) (upd H1 p (.tup xs.reverse))
end
section
variable {X : Cx} {e : Expr} {f : SE} {pos : Pos}
def oRevT : PyData → Option PyData
  | .tuple l => some (.tuple l.reverse)
  | _ => none
end
end DV

namespace PySem.AutoSeq1
end PySem.AutoSeq1
namespace DV
open PySem L2 PySem.Spec PyProof.Rows
/-! ### x.extend(a tuple) -/
section
variable {X : Cx}
def rExtT (K : PySem.W.Frag) : V → List V → Hp → VK → Prop := fun x vs H Q => ∃ l b xs zs, x = .ref l ∧ vs = [.ref b] ∧ H l = some (.lst xs) ∧ SqT K H b zs ∧ xs.length + zs.length ≤ sizeLine ∧ Q .non (upd H l (.lst (xs ++ zs)))
end
def fExtT : List PyData → List PyData → Option PyData := fun l ds => match ds with
  | [.tuple k] => if l.length + k.length ≤ sizeLine then some (.list (l ++ k)) else none
  | _ => none
@[simp] theorem fExtT_r {l k : List PyData} : fExtT l [.tuple k] = if l.length + k.length ≤ sizeLine then some (.list (l ++ k)) else none := rfl
section
variable {X : Cx} {rm : Md} {a : Expr} {f : SE} {pos p1 cpos apos pos' : Pos} {x y : Str}
end
end DV

namespace DV
open PySem L2 PySem.Spec PyProof.Rows
open Classical
/-! ### y = x.pop() of an own list -/
def sPop (j i : Nat) : SS := fun ρ => match ρ[i]? with
  | some (.own (.list l)) => if j < ρ.length then (l[l.length - 1]?).map fun x => .nx ((ρ.set i (.own (.list l.dropLast))).set j (.val x)) else none
  | _ => none
section
variable {X : Cx} {rm : Md} {a : Expr} {f : SE} {pos p1 cpos apos pos' : Pos} {x y : Str}
theorem RepA.dropLast {K : PySem.W.Frag} {G : Hp} {ds : List PyData} {vs : List V} (r : RepA K G ds vs) : RepA K G ds.dropLast vs.dropLast := by
  rw [List.dropLast_eq_take, List.dropLast_eq_take, r.len]; exact r.take _
end
/-! ### dict(d): a dict of the world -/
def wOf (es : List (PyData × PyData)) : Option (List (Key × WV)) := (unKs (es.map (·.1))).map fun ks => ks.zip (es.map fun p => WV.d p.2)
def mMkD (f : ME) : MR := fun ρ w => (f ρ w).bind fun x => match x.1 with
  | .dict es => (wOf es).map fun ks => (x.2.length, x.2 ++ [.dK ks])
  | _ => none
section
variable {cl : Str → Addr} {X : Cx} {rk : RK} {a o e : Expr} {f : ME} {fr : MR} {pos p p1 : Pos} {c x : Str}
end
end DV

namespace DV
open PySem L2 PySem.Spec PyProof.Rows
open Classical
/-! ### o.f1, o.f2, .. = a tuple -/
section
variable {X : Cx} {o : Expr} {f : Str} {to : TE} {pos : Pos}
def gFld (K : PySem.W.Frag) (to : TE) (f : Str) : TG := fun v σ H Q => to σ H fun x H2 => ∃ a C dx fs, x = .ref a ∧ H2 a = some (.ins C dx fs) ∧ Cls K C ∧ NoAttr K C f ∧ fs.length < 1000 ∧ Q σ (upd H2 a (.ins C dx (putF f v fs)))
end
def setFs (c : Str) (fr : MR) (ρ : Rho) : List (Str × PyData) → Wd → Option Wd
  | [], w => some w
  | (f, d) :: r, w => (fr ρ w).bind fun x => match x.2[x.1]? with
    | some (.ins c' vs) => if c' = c ∧ vs.length < 1000 then setFs c fr ρ r (x.2.set x.1 (.ins c' (wPutF f (.d d) vs))) else none
    | _ => none
def tUnF (K : PySem.W.Frag) (cl : Str → Addr) (c : Str) (fs : List Str) (fr : MR) : TGs := fun vs σ H Q => ∃ F H0 G ρ w α ds w', Nok K cl F H0 G ρ σ H w α ∧ RepA K G ds vs ∧ ds.length = fs.length ∧ setFs c fr ρ (fs.zip ds) w = some w' ∧ ∀ G' H' α', Nx G H w α G' H' w' α' → Nok K cl F H0 G' ρ σ H' w' α' → Q σ H'
structure DUn (cl : Str → Addr) (X : Cx) (c : Str) (es : List Expr) (fs : List Str) (fr : MR) : Prop where
  pgs : PGs X es (tUnF X.K cl c fs fr)
section
variable {cl : Str → Addr} {X : Cx} {rk : RK} {c f : Str} {o e : Expr} {es : List Expr} {fs : List Str} {fr : MR} {fe : ME} {pos tpos : Pos} {k n : Nat}
def mUnF (c : Str) (fs : List Str) (fr : MR) (fe : ME) : MS := fun ρ w => (fe ρ w).bind fun x => match x.1 with
  | .tuple ds => if ds.length = fs.length then (setFs c fr ρ (fs.zip ds) x.2).map fun w' => (.nx ρ, w') else none
  | _ => none
end
end DV

/-! ### all(..) of a test that reads built-in names (after the library's rule, the generator's own names told) -/
namespace GxR
open PySem PySem.Spec PyProof.Rows L2
def EltG (X : Cx) (scope : Scope) (x : Str) (elt : Expr) (pb : Nat → Bool) : Prop :=
  ∀ (cenv : Env) (A' : Around) (E' : Value → Shared → Prop) (c : Nat) (t : Tok) (s₂ : Shared) (m₂ : Str → Option Value), cenv.scope = scope → cenv.globals = mainGlobals → cenv.builtins = builtinsNs → s₂.heap.Ns mainGlobals X.mg → (∃ mb, s₂.heap.Ns builtinsNs mb ∧ ∀ y : Str, y ≠ "__name__" → mb y = bootBuiltins y) →
    s₂.heap.Ns cenv.locals m₂ → m₂ x = some (.str ⟨#[c]⟩ t) → wpAny (model X.prog X.w) A' (eval elt cenv) (fun y s₃ => y = .bool (pb c) ∧ Keeps s₂ s₃) E' s₂
section
variable {X : Cx} {pins : List (Addr × Obj)} {σ : L2.St} {H : Hp} {s : Shared}
end
end GxR

namespace DV
open PySem L2 PySem.Spec PyProof.Rows
open Classical
section
variable {cl : Str → Addr} {X : Cx} {elt iter : Expr} {x : Str} {px p pos gpos : Pos} {scope : Scope} {pb : Nat → Bool} {f : ME} {k : Nat} {c : Addr} {nm : Str}
end
/-! ### tests of a sign, put together -/
section
variable {X : Cx} {scope : Scope} {x : Str} {a b : Expr} {pa pb : Nat → Bool} {pos : Pos}
def signOr (pa pb : Nat → Bool) (c : Nat) : Bool := pa c || pb c
def signAnd (pa pb : Nat → Bool) (c : Nat) : Bool := pa c && pb c
def signEq (k : Str) (c : Nat) : Bool := [c] == k.cps.toList
def signOrdNe (i : Int) (c : Nat) : Bool := decide ((c : Int) ≠ i)
end
end DV

namespace DV
open PySem L2 PySem.Spec PyProof.Rows
/-! ### what is never reached, in the pure layer -/
def sDead : SS := fun _ => none
section
variable {X : Cx} {rm : Md} {st : Stmt} {sts : List Stmt}
end
end DV

/-! ### behind a number a token is out -/
namespace DV
open PySem L2 PySem.Spec PyProof.Rows CwR
/-! blocks with a token out -/
structure DXT (X : Cx) (m : Md) (e : Expr) (f : SE) : Prop where
  pe : PET X e (tE X.K m f)
structure DSMT (cl : Str → Addr) (X : Cx) (rk : RK) (st : Stmt) (f : MS) : Prop where
  ps : PST X st (tSM X.K cl rk f)
structure DBMT (cl : Str → Addr) (X : Cx) (rk : RK) (st : List Stmt) (f : MS) : Prop where
  pss : PSsT X st (tSM X.K cl rk f)
theorem PST.imp {X : Cx} {st : Stmt} {t u : TS} (h : PST X st t) (q : ∀ D σ H, u D σ H → t D σ H) : PST X st u := fun pins s σ H D h0 I z => h pins s σ H D h0 I (q D σ H z)
theorem PSsT.imp {X : Cx} {st : List Stmt} {t u : TS} (h : PSsT X st t) (q : ∀ D σ H, u D σ H → t D σ H) : PSsT X st u := fun pins s σ H D h0 I z => h pins s σ H D h0 I (q D σ H z)
theorem PET.imp {X : Cx} {e : Expr} {t u : TE} (h : PET X e t) (q : ∀ σ H Q, u σ H Q → t σ H Q) : PET X e u := fun pins s σ H Q h0 I z => h pins s σ H Q h0 I (q σ H Q z)
section
variable {cl : Str → Addr} {X : Cx} {rk : RK} {st : Stmt} {rest : List Stmt} {f g : MS} {fe fo : SE} {e o a b : Expr} {x y z : Str} {pos pos' p0 bp apos c0 c1 : Pos} {j k : Nat} {m : Md}
/-! x.replace of written texts -/
def oReplace (y z : Str) : PyData → Option PyData
  | .str x => if x.length + (x.length + 1) * z.length ≤ 16777216 then some (.str (Txt.replace x y z)) else none
  | _ => none
end
end DV

namespace DV
open PySem L2 PySem.Spec PyProof.Rows
/-! ### things of the world, read at once -/
def zipK (es : List (Key × WV)) (ds : List PyData) : List (PyData × PyData) := (es.map fun p => keyD p.1).zip ds
def rdW (w : Wd) : WV → Option PyData
  | .d x => some x
  | .r h => match w[h]? with
    | some (.lst l) => (undata l).map .list
    | some (.dK es) => (undata (es.map (·.2))).map fun ds => .dict (zipK es ds)
    | some (.gone d) => some d
    | _ => none
def rdAs (w : Wd) : List WV → Option (List PyData)
  | [] => some []
  | x :: r => (rdW w x).bind fun d => (rdAs w r).map (d :: ·)
section
variable {K : PySem.W.Frag} {cl : Str → Addr} {G G' H B B' : Hp} {w : Wd} {α α' : Pl} {n n' : Nat}
theorem zipK_ok {es : List (Key × WV)} {ks : List (Key × V)} {ds : List PyData} (h1 : es.map (·.1) = ks.map (·.1)) (hu : es.map (·.2) = ds.map WV.d) : (zipK es ds).map (·.1) = ks.map (fun p => keyD p.1) ∧ (zipK es ds).map (·.2) = ds := by
  have hl : es.length = ds.length := by have := congrArg List.length hu; simpa using this
  have e1 : (es.map fun p => keyD p.1) = ks.map (fun p => keyD p.1) := by
    have := congrArg (List.map keyD) h1
    rw [List.map_map, List.map_map] at this
    exact this
  unfold zipK
  constructor
  · rw [List.map_fst_zip (by rw [List.length_map]; omega)]; exact e1
  · exact List.map_snd_zip (by rw [List.length_map]; omega)
theorem rdW_ok (ob : ∀ h o, w[h]? = some o → ObjW K cl G α w.length H h o) {x : WV} {v : V} {d : PyData} (r : RepV K G α w.length x v) (e : rdW w x = some d) : RepB K G H d v := by
  cases r with
  | d r => cases e; exact .val r
  | @r h hh =>
    have e : (match w[h]? with
      | some (.lst l) => (undata l).map .list
      | some (.dK es) => (undata (es.map (·.2))).map fun ds => .dict (zipK es ds)
      | some (.gone d) => some d
      | _ => none) = some d := e
    split at e
    · rename_i l hl
      obtain ⟨ds, e1, rfl⟩ := map_some e
      have := undata_inv e1
      subst this
      obtain ⟨vs, hv, rv⟩ := ob h _ hl
      exact .lst hv (RepVA.ofData rv)
    · rename_i es hl
      obtain ⟨ds, e1, rfl⟩ := map_some e
      have hu := undata_inv e1
      obtain ⟨ks, hk, h1, h2⟩ := ob h _ hl
      rw [hu] at h2
      obtain ⟨z1, z2⟩ := zipK_ok h1 hu
      exact .dK hk z1 (by rw [z2]; exact RepVA.ofData h2)
    · rename_i d' hl
      cases e
      exact .val (ob h _ hl)
    · cases e
def akms : List AK → List Md → Bool
  | [], [] => true
  | .q :: a, .bor :: m => akms a m
  | .md .bor :: a, .bor :: m => akms a m
  | .md .val :: a, .val :: m => akms a m
  | .md .val :: a, .bor :: m => akms a m
  | _, _ => false
theorem rms_ak {Hs : Hp} (ob : ∀ h o, w[h]? = some o → ObjW K cl G α w.length H h o) (eb : Ex B H) : ∀ {ak : List AK} {ms : List Md} {xs : List WV} {ds : List PyData} {vs : List V}, akms ak ms = true → RWs K w.length α G B ak xs vs → rdAs w xs = some ds → RMs K H Hs G H ms ds vs
  | _, [], _, _, _, _, .nil, e => by cases e; exact .nil
  | _, _ :: _, _, _, _, c, .nil, _ => by cases c
  | _, [], _, _, _, c, .q _ _, _ => by cases c
  | _, .bor :: ms, _, _, _, c, .q h t, e => by
    obtain ⟨d, e1, e⟩ := bind_some e
    obtain ⟨ds, e2, rfl⟩ := map_some e
    exact .cons (rdW_ok ob h e1) (rms_ak (Hs := Hs) ob eb (ms := ms) c t e2)
  | _, .val :: _, _, _, _, c, .q _ _, _ => by cases c
  | _, .new :: _, _, _, _, c, .q _ _, _ => by cases c
  | _, .par :: _, _, _, _, c, .q _ _, _ => by cases c
  | _, .scr :: _, _, _, _, c, .q _ _, _ => by cases c
  | _, [], _, _, _, c, .val _ _, _ => by cases c
  | _, .val :: ms, _, _, _, c, .val h t, e => by
    obtain ⟨d, e1, e⟩ := bind_some e
    obtain ⟨ds, e2, rfl⟩ := map_some e
    cases e1
    exact .cons h (rms_ak (Hs := Hs) ob eb (ms := ms) c t e2)
  | _, .bor :: ms, _, _, _, c, .val h t, e => by
    obtain ⟨d, e1, e⟩ := bind_some e
    obtain ⟨ds, e2, rfl⟩ := map_some e
    cases e1
    exact .cons (RepB.val h) (rms_ak (Hs := Hs) ob eb (ms := ms) c t e2)
  | _, .new :: _, _, _, _, c, .val _ _, _ => by cases c
  | _, .par :: _, _, _, _, c, .val _ _, _ => by cases c
  | _, .scr :: _, _, _, _, c, .val _ _, _ => by cases c
  | _, [], _, _, _, c, .bor _ _, _ => by cases c
  | _, .bor :: ms, _, _, _, c, .bor h t, e => by
    obtain ⟨d, e1, e⟩ := bind_some e
    obtain ⟨ds, e2, rfl⟩ := map_some e
    cases e1
    exact .cons (RepB.mono (Ex.refl _) eb h) (rms_ak (Hs := Hs) ob eb (ms := ms) c t e2)
  | _, .val :: _, _, _, _, c, .bor _ _, _ => by cases c
  | _, .new :: _, _, _, _, c, .bor _ _, _ => by cases c
  | _, .par :: _, _, _, _, c, .bor _ _, _ => by cases c
  | _, .scr :: _, _, _, _, c, .bor _ _, _ => by cases c
  | _, [], _, _, _, c, .scr _ _, _ => by cases c
  | _, _ :: _, _, _, _, c, .scr _ _, _ => by cases c
def akB : List AK → Bool
  | [] => true
  | .q :: a => akB a
  | .md .bor :: a => akB a
  | .md .val :: a => akB a
  | _ => false
end
/-! ### a pure def, a built-in: called with things of the world -/
def mFB (Fn : List PyData → Option PyData) (r : MA) : ME := fun ρ w => (r ρ w).bind fun x => (rdAs x.2 x.1).bind fun ds => (Fn ds).map fun d => (d, x.2)
section
variable {cl : Str → Addr} {X : Cx} {rm m : Md} {a b e : Expr} {es : List Expr} {ak : List AK} {f g : MQ} {r : MA} {pos p p1 p2 : Pos} {k : Nat} {x : Str}
theorem m_pfnB {mm : List Md} {ps : List Str} {Fn : List PyData → Option PyData} (F : Fn1 X.prog X.w X.K X.mg X.base x ps k rm mm Fn) (hr : Room k X.A) (ha : DAM cl X ak (e :: es) r) (hak : akms ak mm = true := by rfl) (hrm : MN rm := by first | exact Or.inl rfl | exact Or.inr rfl) (hg : Gl X x := by rfl) (hdb : (x == ("__debug__" : Str)) = false := by decide)
    (he : starEach (e :: es) X.env = (false, eval e X.env) :: starEach es X.env := by rfl) (hpl : (backTo pos (starEach es X.env)).any (·.1) = false := by rfl) :
    DM cl X rm (.Call (.Name x p) (e :: es) [] pos) (mFB Fn r) := by
  obtain ⟨f, fd, F, hm, hk, hb⟩ := F
  refine ⟨(pe_call F hr hg hm hk hb .nil pass0 ha.pa hdb he hpl).imp fun σ H Q ⟨Fr, H0, G, ρ, w, α, d, w', s, e, q⟩ => ?_⟩
  obtain ⟨⟨xs, w1⟩, e1, e⟩ := bind_some e
  obtain ⟨ds, e2, e⟩ := bind_some e
  obtain ⟨d', hd, e3⟩ := map_some e
  cases e3
  refine ⟨Fr, H0, G, ρ, w, α, xs, w1, s, e1, fun G' H' α' vs n s' rr => ?_⟩
  show spD X.K rm mm Fn (vs ++ []) H' Q E0
  rw [List.append_nil]
  have ra := rms_ak (Hs := H') s'.ww.obj hideW_le hak rr e2
  refine ⟨ra.len.2, G', ds, d, s'.gh, ra, hd, fun G2 H2 v gx2 r2 => ?_⟩
  exact q G2 H2 α' v (n.trans (.gx gx2)) (s'.gx' gx2) ((RN.of hrm s'.ww r2).start hrm fun p hp => n.dom' s'.ww s'.gh hp)
end
/-! ### operands of any kind -/
inductive ROp (K : PySem.W.Frag) (n : Nat) (α : Pl) (G B : Hp) : WV → V → Prop
  | b {d : PyData} {v : V} : RepB K G B d v → ROp K n α G B (.d d) v
  | r {h : Nat} : h < n → ROp K n α G B (.r h) (.ref (α.a h))
section
variable {K : PySem.W.Frag} {cl : Str → Addr} {G G' H B B' : Hp} {w : Wd} {α α' : Pl} {n n' : Nat} {x : WV} {v : V} {d : PyData}
theorem ROp.mono (e : Ex G G') (e2 : Ex B B') (hn : n ≤ n') (l : Pl.Le n α α') (h : ROp K n α G B x v) : ROp K n' α' G' B' x v := by
  cases h with
  | b h => exact .b (h.mono e e2)
  | @r h hl =>
    rw [← (l h hl).1]
    exact .r (Nat.lt_of_lt_of_le hl hn)
theorem ROp.rd (ob : ∀ h o, w[h]? = some o → ObjW K cl G α w.length H h o) (eb : Ex B H) (h : ROp K w.length α G B x v) (e : rdW w x = some d) : RepB K G H d v := by
  cases h with
  | b h => cases e; exact h.mono (Ex.refl _) eb
  | r h => exact rdW_ok ob (.r h) e
end
def tOp1 (K : PySem.W.Frag) (cl : Str → Addr) (f : MQ) : TE := fun σ H Q => ∃ F H0 G ρ w α x w', Nok K cl F H0 G ρ σ H w α ∧ f ρ w = some (x, w') ∧ ∀ G' H' α' v, Nx G H w α G' H' w' α' → Nok K cl F H0 G' ρ σ H' w' α' → ROp K w'.length α' G' (hideW H' (dom α' w')) x v → Q v H'
structure DOp (cl : Str → Addr) (X : Cx) (e : Expr) (f : MQ) : Prop where
  pe : PE X e (tOp1 X.K cl f)
def mOpW (F : PyData → PyData → Option PyData) (f g : MQ) : ME := fun ρ w => (f ρ w).bind fun x => (g ρ x.2).bind fun y => (rdW y.2 x.1).bind fun d1 => (rdW y.2 y.1).bind fun d2 => (F d1 d2).map fun d => (d, y.2)
section
variable {cl : Str → Addr} {X : Cx} {rm m : Md} {a b e : Expr} {es : List Expr} {ak : List AK} {f g : MQ} {fe : ME} {r : MA} {pos p p1 p2 : Pos} {k : Nat} {x : Str}
theorem op_b (h : DMB cl X e fe) : DOp cl X e (mQ fe) := ⟨h.pe.imp fun σ H Q ⟨F, H0, G, ρ, w, α, x, w', s, e, q⟩ => by
  obtain ⟨⟨d, w1⟩, e1, e2⟩ := map_some e
  cases e2
  exact ⟨F, H0, G, ρ, w, α, d, w1, s, e1, fun G' H' α' v n s' r => q G' H' α' v n s' (.b r)⟩⟩
end
end DV

namespace DV
open PySem L2 PySem.Spec PyProof.Rows
section
variable {cl : Str → Addr} {X : Cx} {rk : RK} {rm m : Md} {a b e : Expr} {es : List Expr} {ak : List AK} {f g : MQ} {fe fi fv : ME} {fr : MR} {fq : MQ} {r : MA} {pos p p1 p2 apos cpos tpos : Pos} {k : Nat} {x : Str}
/-! ### isinstance over the world -/
def mIs (T : String) (f : ME) : ME := fun ρ w => (f ρ w).bind fun d => (isT T d.1).map fun b => (.bool b, d.2)
/-! ### a part of a list of the world -/
def mSlW (f : MQ) (g h : MO) : ME := fun ρ w => (f ρ w).bind fun x => (g ρ x.2).bind fun lo => (h ρ lo.2).bind fun hi => (rdW hi.2 x.1).bind fun d => (oSlL d lo.1 hi.1).map fun d => (d, hi.2)
theorem m_slW {lo hi : Option Expr} {gl gh : MO} (ha : DOp cl X e f) (hl : DOM cl X lo gl) (hu : DOM cl X hi gh) : DM cl X .new (.Subscript e (.Slice lo hi none p2) pos) (mSlW f gl gh) :=
  ⟨(pe_slice sl_list ha.pe hl.po hu.po).imp fun σ H Q ⟨F, H0, G, ρ, w, α, d, w', s, ed, q⟩ => by
    obtain ⟨⟨x, w1⟩, e1, ed⟩ := bind_some ed
    obtain ⟨⟨l, w2⟩, e2, ed⟩ := bind_some ed
    obtain ⟨⟨u, w3⟩, e3, ed⟩ := bind_some ed
    obtain ⟨d1, e4, ed⟩ := bind_some ed
    obtain ⟨d2, e5, ed⟩ := map_some ed
    cases ed
    refine ⟨F, H0, G, ρ, w, α, x, w1, s, e1, fun G1 H1 α1 v n1 s1 r1 => ⟨F, H0, G1, ρ, w1, α1, l, w2, s1, e2, fun G2 H2 α2 n2 s2 => ⟨F, H0, G2, ρ, w2, α2, u, w3, s2, e3, fun G3 H3 α3 n3 s3 => ?_⟩⟩⟩
    have n23 := n2.trans n3
    have n13 := n1.trans n23
    have rb := (r1.mono n23.g n23.h n23.n n23.al).rd s3.ww.obj hideW_le e4
    unfold oSlL at e5
    split at e5
    · cases e5
      obtain ⟨b, vs, rfl, h1, ra⟩ := RepB.rd s3.gh rb
      refine ⟨b, vs, rfl, .inl h1, fun p np => ?_⟩
      have gx := Gx.mine (o := .lst (cutV vs l u)) s3.gh np
      refine q _ _ _ _ (n13.trans (.gx gx)) (s3.gx' gx) ⟨⟨p, rfl, n13.dom' s3.ww s3.gh np, s3.gh.back np, .lst upd_same (ra.cut l u)⟩, fun _ p' e z => ?_⟩
      cases e
      obtain ⟨u, hu, _⟩ := s3.ww.there z
      rw [np] at hu; cases hu
    · cases e5⟩
/-! ### o[i] op= v, o a list of the world -/
def mPutOp (F : Int → Int → Int) (fr : MR) (fi fv : ME) : MS := fun ρ w => (fr ρ w).bind fun x => (fi ρ x.2).bind fun i => match i.2[x.1]?, i.1 with
  | some (.lst l), .int k => (atI l k).bind fun z => match z with
    | .d (.int z) => (fv ρ i.2).bind fun y => match y.2[x.1]?, y.1 with
      | some (.lst l2), .int y1 => (ixN l2.length k).map fun j => (.nx ρ, y.2.set x.1 (.lst (l2.set j (.d (.int (F z y1))))))
      | _, _ => none
    | _ => none
  | _, _ => none
end
end DV

namespace DV
open PySem L2 PySem.Spec PyProof.Rows
section
variable {cl : Str → Addr} {X : Cx} {rk : RK} {rm m : Md} {a b e : Expr} {es : List Expr} {ak : List AK} {f g : MQ} {fe fi fv : ME} {fr : MR} {fq : MQ} {r : MA} {pos p p1 p2 apos cpos tpos : Pos} {k : Nat} {x : Str}
/-! ### own lists change by what is made with effects -/
def mMutO (Fn : List PyData → List PyData → Option PyData) (i : Nat) (f : ME) : MS := fun ρ w => match ρ[i]? with
  | some (.own (.list l)) => (f ρ w).bind fun x => (Fn l [x.1]).map fun d => (.nx (ρ.set i (.own d)), x.2)
  | _ => none
/-! ### dict(d), d a dict of the world -/
def mCopyD (fr : MR) : MR := fun ρ w => (fr ρ w).bind fun x => match x.2[x.1]? with
  | some (.dK es) => some (x.2.length, x.2 ++ [.dK es])
  | some (.lk es) => some (x.2.length, x.2 ++ [.dK es])
  | _ => none
/-! ### a list becomes data -/
def mFrzS (fr : MR) : ME := fun ρ w => (fr ρ w).bind fun x => match x.2[x.1]? with
  | some (.lst l) => (undata l).map fun ds => (.list ds, x.2.set x.1 (.gone (.list ds)))
  | some (.gone d) => some (d, x.2)
  | _ => none
/-! ### zip of values -/
end
/-! ### [..] * n -/
def oRepL : PyData → PyData → Option PyData
  | .list ds, .int k => if -(2 ^ 63) ≤ k ∧ k < 2 ^ 63 ∧ ds.length * k.toNat ≤ sizeLine then some (.list (List.replicate k.toNat ds).flatten) else none
  | _, _ => none
section
variable {X : Cx} {a b : Expr} {f g : SE} {pos : Pos}
end
/-! ### {k: v, ..} with things of the world -/
def mergeW : List (Key × WV) → List (PyData × WV) → Option (List (Key × WV))
  | acc, [] => some acc
  | acc, p :: r => (unK p.1).bind fun k => mergeW (wPut acc k p.2) r
def pairsW : List (ME × MQ) → Rho → Wd → Option (List (PyData × WV) × Wd)
  | [], _, w => some ([], w)
  | p :: r, ρ, w => (p.1 ρ w).bind fun k => (p.2 ρ k.2).bind fun v => (pairsW r ρ v.2).map fun l => ((k.1, v.1) :: l.1, l.2)
def mDspW (l : List (ME × MQ)) : MR := fun ρ w => (pairsW l ρ (w ++ [.dK []])).bind fun x => match x.2[w.length]? with
  | some (.dK []) => if x.1.length ≤ 15 then (mergeW [] x.1).map fun es => (w.length, x.2.set w.length (.dK es)) else none
  | _ => none
structure DPW (cl : Str → Addr) (X : Cx) (pos : Pos) (keys : List (Option Expr)) (values : List Expr) (l : List (ME × MQ)) : Prop where
  pps : ∃ trs, PPs X pos keys values trs ∧ ∀ (σ : L2.St) (H : Hp) (F : Fr) (H0 G : Hp) (ρ : Rho) (w : Wd) (α : Pl) (es : List (PyData × WV)) (w' : Wd) (Q : List (V × V) → Hp → Prop), Nok X.K cl F H0 G ρ σ H w α → pairsW l ρ w = some (es, w') →
    (∀ G' H' α' ks vs, Nx G H w α G' H' w' α' → Nok X.K cl F H0 G' ρ σ H' w' α' → RepA X.K G' (es.map (·.1)) ks → RepVA X.K G' α' w'.length (es.map (·.2)) vs → Q (ks.zip vs) H') → tPairs trs σ H Q
section
variable {cl : Str → Addr} {X : Cx} {a b : Expr} {f : ME} {g : MQ} {pos : Pos}
end
end DV

namespace DV
open PySem L2 PySem.Spec PyProof.Rows
/-! ### targets of any kind -/
def tGV (K : PySem.W.Frag) (cl : Str → Addr) (gv : WV → Rho → Option Rho) : TG := fun v σ H Q => ∃ F H0 G ρ w α x ρ', Nok K cl F H0 G ρ σ H w α ∧ RepV K G α w.length x v ∧ gv x ρ = some ρ' ∧ ∀ σ', Nok K cl F H0 G ρ' σ' H w α → Q σ' H
structure DGV (cl : Str → Addr) (X : Cx) (tg : Expr) (gv : WV → Rho → Option Rho) : Prop where
  pg : PG X tg (tGV X.K cl gv)
def gvName (i : Nat) : WV → Rho → Option Rho := fun x ρ => if i < ρ.length then some (ρ.set i (slotV x)) else none
def gvD (g : SG) : WV → Rho → Option Rho := fun x ρ => match x with
  | .d d => g d ρ
  | .r _ => none
/-! ### a loop over a list of the world -/
def mForLGo (gv : WV → Rho → Option Rho) (b : MS) (h n : Nat) : Nat → MS
  | 0, ρ, w => match w[h]? with
    | some (.lst l) => if l.length = n then some (.nx ρ, w) else none
    | _ => none
  | k + 1, ρ, w => match w[h]? with
    | some (.lst l) => if l.length = n then (l[n - (k + 1)]?).bind fun x => (gv x ρ).bind fun ρ1 => (b ρ1 w).bind fun o => match o.1 with
      | .nx ρ' => mForLGo gv b h n k ρ' o.2
      | .ct ρ' => mForLGo gv b h n k ρ' o.2
      | .bk ρ' => some (.nx ρ', o.2)
      | .rt d => some (.rt d, o.2)
      else none
    | _ => none
def mForL (fr : MR) (gv : WV → Rho → Option Rho) (b : MS) : MS := fun ρ w => (fr ρ w).bind fun x => match x.2[x.1]? with
  | some (.lst l) => mForLGo gv b x.1 l.length l.length ρ x.2
  | _ => none
section
variable {cl : Str → Addr} {X : Cx} {rk : RK} {tg iter e : Expr} {body : List Stmt} {fr : MR} {gv : WV → Rho → Option Rho} {g : SG} {f : MS} {pos p1 : Pos} {x : Str}
theorem dgv_name (i : Nat) (hN : X.N.Nodup) (hi : X.N[i]? = some x := by rfl) (hx : Loc X.env.scope x := by first | exact Or.inl rfl | exact Or.inr rfl) (hf : X.fn x = true ∨ X.env.scope.names.lookup x = some .local := by first | exact .inl rfl | exact .inr rfl | assumption) : DGV cl X (.Name x pos) (gvName i) :=
  ⟨(pg_name hN hi hx hf).imp fun v σ H Q ⟨F, H0, G, ρ, w, α, x, ρ', s, r, e, q⟩ => by
    obtain ⟨hl, rfl⟩ := if_some e
    exact q _ (s.setV hl r)⟩
theorem dgv_d (hg : DG X tg g) : DGV cl X tg (gvD g) :=
  ⟨hg.pg.imp fun v σ H Q ⟨F, H0, G, ρ, w, α, x, ρ', s, r, e, q⟩ => by
    cases r with
    | d r => exact tg_of s r e q
    | r h => cases e⟩
theorem ms_forL (hp : PassesOwn (model X.prog X.w) X.A X.env X.xe) (hc : X.calm = true) (hi : DR cl X iter fr) (hg : DGV cl X tg gv) (hb : DBM cl X rk body f)
    (hs : ∀ x, foldedSetIterable iter X.env x = pure x := by intro _; rfl) : DSM cl X rk (.For tg iter body [] pos) (mForL fr gv f) :=
  ⟨(ps_for hp hc (pi_any hi.pe) hg.pg hb.pss hs).imp fun D σ H ⟨F, H0, G, ρ, w, α, o, w', s, e1, q⟩ => by
    obtain ⟨⟨h, w1⟩, e0, e2⟩ := bind_some e1
    refine ⟨F, H0, G, ρ, w, α, h, w1, s, e0, fun G1 H1 α1 n1 s1 hh => ?_⟩
    split at e2
    · rename_i l0 e5
      obtain ⟨vs0, hv0, rl0⟩ := s1.ww.lst e5
      refine .inl ⟨_, rfl, ⟨vs0, SqL.of hv0⟩, ?_⟩
      let St (i : Nat) (σi : L2.St) (Hi : Hp) : Prop := ∃ Gi ρi wi αi, Wx G1 w1 α1 Gi wi αi ∧ Nok X.K cl F H0 Gi ρi σi Hi wi αi ∧ i ≤ l0.length ∧ mForLGo gv f h l0.length (l0.length - i) ρi wi = some (o, w')
      refine ⟨fun i m σi Hi => m = l0.length - i ∧ St i σi Hi, ⟨_, rfl, G1, ρ, w1, α1, .refl, s1, Nat.zero_le _, e2⟩, ?_⟩
      rintro i m σi Hi ⟨rfl, Gi, ρi, wi, αi, lw, si, hi, hr⟩
      have q := q.grow (n1.wx.trans lw)
      have ea : αi.a h = α1.a h := (lw.al h hh).1
      by_cases hlt : i < l0.length
      · obtain ⟨k, hk⟩ : ∃ k, l0.length - i = k + 1 := ⟨l0.length - i - 1, by omega⟩
        rw [hk] at hr
        unfold mForLGo at hr
        split at hr
        · rename_i l e6
          obtain ⟨hl, hr⟩ := ite_some hr
          obtain ⟨y0, e7, hr⟩ := bind_some hr
          obtain ⟨ρ1, e8, hr⟩ := bind_some hr
          obtain ⟨⟨o1, w2⟩, e3, hr⟩ := bind_some hr
          have hki : l0.length - (k + 1) = i := by omega
          rw [hki] at e7
          obtain ⟨vs, hv, rl⟩ := si.ww.lst e6
          rw [ea] at hv
          obtain ⟨v, h1, h2⟩ := rl.get e7
          refine .inr ⟨⟨vs, v, SqL.of hv, h1⟩, St (i + 1), fun σ' H' p => ⟨_, by omega, rfl, p⟩, fun y H' hy => ?_⟩
          obtain ⟨rfl, hy⟩ := hy
          have hy := hy vs (SqL.of hv)
          rw [h1] at hy; cases hy
          refine ⟨F, H0, Gi, ρi, wi, αi, y0, ρ1, si, h2, e8, fun σ2 s2 => ⟨F, H0, Gi, ρ1, wi, αi, o1, w2, s2, e3, ?_⟩⟩
          have hk2 : l0.length - (i + 1) = k := by omega
          cases o1 with
          | nx ρ' => exact fun G' σ' H' α' l4 s4 => ⟨G', ρ', w2, α', lw.trans l4, s4, hlt, by rw [hk2]; exact hr⟩
          | ct ρ' => exact fun G' σ' H' α' l4 s4 => ⟨G', ρ', w2, α', lw.trans l4, s4, hlt, by rw [hk2]; exact hr⟩
          | bk ρ' =>
            cases hr
            exact fun G' σ' H' α' l4 s4 => q G' σ' H' α' l4 s4
          | rt d =>
            cases hr
            exact q
        · cases hr
      · have ei : i = l0.length := by omega
        subst ei
        rw [Nat.sub_self] at hr
        unfold mForLGo at hr
        split at hr
        · rename_i l e6
          obtain ⟨hl, hr⟩ := ite_some hr
          cases hr
          obtain ⟨vs, hv, rl⟩ := si.ww.lst e6
          rw [ea] at hv
          exact .inl ⟨⟨vs, SqL.of hv, by rw [← rl.len, hl]; exact Nat.le_refl _⟩, q Gi σi Hi αi .refl si⟩
        · cases hr
    · cases e2⟩
end
end DV

namespace DV
open PySem L2 PySem.Spec PyProof.Rows
/-! ### a loop over the keys of a dict of the world: it is locked -/
def Pl.seto (α : Pl) (h : Nat) (u : Option HO) : Pl := ⟨α.a, α.x, fun j => if j = h then u else α.o j⟩
section
variable {K : PySem.W.Frag} {cl : Str → Addr} {F : Fr} {H0 G H : Hp} {ρ : Rho} {σ : L2.St} {w : Wd} {α : Pl} {n h : Nat} {u : Option HO}
end
def mForKGo (g : SG) (b : MS) (h : Nat) : List PyData → MS
  | [], ρ, w => match w[h]? with
    | some (.lk _) => some (.nx ρ, w)
    | _ => none
  | k :: ks, ρ, w => match w[h]? with
    | some (.lk _) => (g k ρ).bind fun ρ1 => (b ρ1 w).bind fun o => match o.1 with
      | .nx ρ' => mForKGo g b h ks ρ' o.2
      | .ct ρ' => mForKGo g b h ks ρ' o.2
      | .bk ρ' => some (.nx ρ', o.2)
      | .rt d => some (.rt d, o.2)
    | _ => none
def mForK (i : Nat) (g : SG) (b : MS) : MS := fun ρ w => match ρ[i]? with
  | some (.st h) => match w[h]? with
    | some (.dK es) => (mForKGo g b h (es.map fun p => keyD p.1) ρ (w.set h (.lk es))).bind fun o => match o.2[h]? with
      | some (.lk es') => some (o.1, o.2.set h (.dK es'))
      | _ => none
    | _ => none
  | _ => none
section
variable {cl : Str → Addr} {X : Cx} {rk : RK} {tg : Expr} {body : List Stmt} {g : SG} {f : MS} {pos p1 : Pos} {x : Str}
end
end DV

namespace DV
open PySem L2 PySem.Spec PyProof.Rows
/-! ### == of things of the world that hold the same -/
inductive DpE (K : PySem.W.Frag) (H : Hp) : Nat → V → V → Prop
  | leaf {n : Nat} {v y : V} {x : PyData} : 64 ≤ n → Dp K H v x → Dp K H y x → SeqAt.shaped x = true → PyData.eqv x x = true → DpE K H n v y
  | lst {n : Nat} {a b : Addr} {xs ys : List V} : H a = some (.lst xs) → H b = some (.lst ys) → xs.length = ys.length → (∀ (j : Nat) (x y : V), xs[j]? = some x → ys[j]? = some y → DpE K H n x y) → DpE K H (n + 1) (.ref a) (.ref b)
  | dK {n : Nat} {a b : Addr} {ks ls : List (Key × V)} (f : Key → V) : H a = some (.dK ks) → H b = some (.dK ls) → ks.length = ls.length → (∀ k v, (k, v) ∈ ks → valV ls k = some (f k)) → (∀ k v, (k, v) ∈ ks → DpE K H n v (f k)) → DpE K H (n + 1) (.ref a) (.ref b)
/-- two dicts of the same content -/
def rWE (K : PySem.W.Frag) (ne : Bool) : R2 := fun x y H Q => ∃ (a b : Addr) (ks ls : List (Key × V)) (f : Key → V), x = .ref a ∧ y = .ref b ∧ H a = some (.dK ks) ∧ H b = some (.dK ls) ∧ ks.length = ls.length ∧ (∀ k v, (k, v) ∈ ks → valV ls k = some (f k)) ∧ (∀ k v, (k, v) ∈ ks → DpE K H 70 v (f k)) ∧ Q (.bl (!ne)) H
/-! the same over the world -/
inductive WEq (w : Wd) : Nat → WV → WV → Prop
  | leaf {n : Nat} {x : PyData} : 64 ≤ n → SeqAt.shaped x = true → PyData.eqv x x = true → WEq w n (.d x) (.d x)
  | lst {n : Nat} {a b : Nat} {xs ys : List WV} : w[a]? = some (.lst xs) → w[b]? = some (.lst ys) → xs.length = ys.length → (∀ (j : Nat) (x y : WV), xs[j]? = some x → ys[j]? = some y → WEq w n x y) → WEq w (n + 1) (.r a) (.r b)
  | dK {n : Nat} {a b : Nat} {ks ls : List (Key × WV)} (f : Key → WV) : w[a]? = some (.dK ks) → w[b]? = some (.dK ls) → ks.length = ls.length → (∀ k v, (k, v) ∈ ks → wGet ls k = some (f k)) → (∀ k v, (k, v) ∈ ks → WEq w n v (f k)) → WEq w (n + 1) (.r a) (.r b)
section
variable {K : PySem.W.Frag} {cl : Str → Addr} {G H : Hp} {w : Wd} {α : Pl}
end
open Classical in
noncomputable def mEqW (ne : Bool) (f g : MQ) : MB := fun ρ w => (f ρ w).bind fun x => (g ρ x.2).bind fun y => match x.1, y.1 with
  | .r a, .r b => match y.2[a]?, y.2[b]? with
    | some (.dK _), some (.dK _) => if WEq y.2 71 (.r a) (.r b) then some (!ne, y.2) else none
    | _, _ => none
  | _, _ => none
section
variable {cl : Str → Addr} {X : Cx} {a b : Expr} {f g : MQ} {pos : Pos} {k : Nat}
end
end DV

namespace DV
open PySem L2 PySem.Spec PyProof.Rows
/-! ### a method whose last parameters have defaults -/
def mMethD (c m : Str) (Fn : MF) (dw : List WV) (fr : MR) (r : MA) : MQ := fun ρ w => (fr ρ w).bind fun x => match x.2[x.1]? with
  | some (.ins c' fs) => if c' = c ∧ (fs.lookup m).isNone = true then (r ρ x.2).bind fun y => Fn (.r x.1 :: (y.1 ++ dw)) y.2 else none
  | _ => none
/-- the defaults stand for dw, wherever -/
def DflOk (K : PySem.W.Frag) (msd : List AK) (dw : List WV) (dv : List V) : Prop := ∀ (n : Nat) (α : Pl) (G B : Hp), RWs K n α G B msd dw dv
def MethWD (P : Program) (w : World) (K : PySem.W.Frag) (mg : Str → Option Value) (base : Heap) (cl : Str → Addr) (c x : Str) (ps : List Str) (k : Nat) (rk : RK) (ms msd : List AK) (dw : List WV) (F : MF) : Prop :=
  ∃ (f : Addr) (fd : FuncData) (ds : List Value) (dv : List V), FnOk P w K mg base CX0 k f fd ps (spW K cl rk (.q :: (ms ++ msd)) F) ∧ Cls K (cl c) ∧ Meth K (cl c) x f ∧ Binds K fd ps ds ∧ Vals dv ds ∧ DflOk K msd dw dv
section
variable {cl : Str → Addr} {X : Cx} {rk : RK} {m : Md} {ms msd : List AK} {dw : List WV} {dv : List V} {o e tg : Expr} {es : List Expr} {fr : MR} {r : MA} {Fn : MF} {pos apos p : Pos} {c x : Str} {ps : List Str} {k : Nat} {mm : Str} {pl : Sem Bool}
end
end DV

namespace DV
open PySem L2 PySem.Spec PyProof.Rows
/-! ### a new dict comes to the world -/
section
variable {cl : Str → Addr} {X : Cx} {rk : RK} {rm m : Md} {a b e : Expr} {es : List Expr} {ak : List AK} {f g : MQ} {fe : ME} {t : MB} {fr : MR} {fq : MQ} {r : MA} {pos p p1 p2 apos cpos tpos : Pos} {k : Nat} {x : Str}
/-! ### == of dicts as a value -/
def mBE (t : MB) : ME := fun ρ w => (t ρ w).map fun x => (.bool x.1, x.2)
end
/-! ### x.strip(signs) -/
def oStrip (a b : PyData) : Option PyData := match a, b with
  | .str x, .str y => if x.length ≤ sizeLine then some (.str (Txt.stripChars x y)) else none
  | _, _ => none
section
variable {X : Cx} {a b : Expr} {f g : SE} {pos apos : Pos}
end
end DV

namespace DV
open PySem L2 PySem.Spec PyProof.Rows
/-! ### name = [.. for ..] on one line, over the world -/
section
variable {cl : Str → Addr} {X : Cx} {rk : RK} {elt iter tg : Expr} {ifs : List Expr} {scope : Scope} {own : List (Str × Nat)} {fi : MI} {g : SG} {t : MB} {fe : ME} {py pos spos : Pos} {y : Str} {vs : List Nat}
end
end DV

namespace DV
open PySem L2 PySem.Spec PyProof.Rows
section
variable {cl : Str → Addr} {X : Cx} {rk : RK} {rm m : Md} {a b c e : Expr} {fe fb fc : ME} {fr : MR} {pos p p1 p2 apos cpos tpos : Pos} {k : Nat} {x : Str}
/-! ### d.get(k, x), d a dict of the world -/
def mDGet2 (fr : MR) (fk fd : ME) : ME := fun ρ w => (fr ρ w).bind fun x => match x.2[x.1]? with
  | some (.dK _) => (fk ρ x.2).bind fun y => (fd ρ y.2).bind fun z => match z.2[x.1]? with
    | some (.dK es) => (unK y.1).bind fun k => match wGet es k with
      | some (.d v) => some (v, z.2)
      | some (.r _) => none
      | none => some (z.1, z.2)
    | _ => none
  | _ => none
end
/-! ### name = [.. for ..], the name of a list of the world -/
section
variable {cl : Str → Addr} {X : Cx} {rk : RK} {elt iter tg : Expr} {ifs : List Expr} {scope : Scope} {own : List (Str × Nat)} {fi : MI} {g : SG} {t : MB} {fe : ME} {py pos spos : Pos} {y : Str} {vs : List Nat}
end
end DV

namespace DV
open PySem L2 PySem.Spec PyProof.Rows
/-! ### the head by one kernel run: what the top leaves, told by a Hook -/
abbrev AlW : Type := List He.FnV × Bool
def obsWd (fn : List He.FnD) (ex : PySem.W.Frag → List Bool) (K : PySem.W.Frag) : AlW := (fn.map fun d => He.fnObs K d.at_, (ex K).all id)
structure SaysWd (fn : List He.FnD) (ex : PySem.W.Frag → List Bool) (K : PySem.W.Frag) : Prop where
  fns : (fn.map fun d => He.fnObs K d.at_) = fn.map He.FnD.val
  ex : (ex K).all id = true
/-- what is followed: a def's code and keyword defaults, a class's names, a dict's values -/
def refsW (o : Obj) : List Addr := match o.data with
  | .func fd => He.refV fd.code ++ He.refV fd.kwdefaults
  | .cls cd => [cd.ns]
  | .dict es _ => es.toList.flatMap fun e => He.refV e.val
  | _ => []
def asW (g : Addr → Option Obj) : Nat → List Addr → List Addr
  | 0, fr => fr
  | n + 1, fr => fr ++ asW g n (fr.flatMap fun a => match g a with
    | some o => refsW o
    | none => [])
def obsWG (n : Nat) (fn : List He.FnD) (ex : PySem.W.Frag → List Bool) (g : Addr → Option Obj) : AlW := obsWd fn ex (He.frG g (asW g n [mainGlobals]))
def hookWd (n : Nat) (fn : List He.FnD) (ex : PySem.W.Frag → List Bool) : PySem.W.Hook where
  α := AlW
  obs := fun s => obsWG n fn ex s.heap.get?
  val := fun _ => (fn.map He.FnD.val, true)
  says := fun _ h => ∃ K : PySem.W.Frag, K.In h ∧ SaysWd fn ex K
  of := fun _ _ e => ⟨_, He.frG_in, ⟨congrArg (fun z : AlW => z.1) e, congrArg (fun z : AlW => z.2) e⟩⟩
  keeps := fun _ _ _ ⟨K, hK, c⟩ k => ⟨K, PySem.W.Frag.In.keeps hK k, c⟩
theorem obsWG_eq {n : Nat} {fn : List He.FnD} {ex : PySem.W.Frag → List Bool} {g : Addr → Option Obj} {s : Shared} (h : ∀ a, g a = s.heap.get? a) : obsWG n fn ex g = (hookWd n fn ex).obs s := by
  have e : g = s.heap.get? := funext h
  rw [e] <;> rfl
section
variable {fn : List He.FnD} {ex : PySem.W.Frag → List Bool} {K : PySem.W.Frag}
theorem SaysWd.at (c : SaysWd fn ex K) (i : Nat) {b : Bool} (h : (ex K)[i]? = some b := by rfl) : b = true := List.all_eq_true.mp c.ex b (List.mem_of_getElem? h)
theorem SaysWd.ref (c : SaysWd fn ex K) (i : Nat) {x y : Option (Option Value)} (h : (ex K)[i]? = some (He.eqO x y) := by rfl) : x = y := He.eqO_ok (c.at i h)
theorem SaysWd.def_ (c : SaysWd fn ex K) (i j : Nat) {d : He.FnD} (h : fn[i]? = some d := by rfl) (h2 : (ex K)[j]? = some ((He.Fa.code d.at_ d.qual).ok K) := by rfl) :
    ∃ oc od osl kV doc pm an cdv ct, K.lookup (He.fAd K d.at_) = some ⟨oc, od, .func (PySem.W.fnOf d.name d.qual d.params d.body d.scope .none kV doc pm an cdv ct), osl⟩ ∧ PySem.W.codeIn K cdv d.qual = true := by
  have e2 : (fn.map fun d => He.fnObs K d.at_)[i]? = (fn.map He.FnD.val)[i]? := by rw [c.fns]
  rw [List.getElem?_map, List.getElem?_map, h] at e2
  exact He.fn_ok (Option.some.inj e2) (c.at j h2)
end
/-- a number, a text of the top -/
def bInt (K : PySem.W.Frag) (x : Str) (i : Int) : Bool := match PySem.W.nsIn K mainGlobals x with
  | some (some (.int j _)) => decide (j = i)
  | _ => false
def bStr (K : PySem.W.Frag) (x z : Str) : Bool := match PySem.W.nsIn K mainGlobals x with
  | some (some (.str y _)) => decide (y = z)
  | _ => false
theorem bStr_ok {K : PySem.W.Frag} {x z : Str} (h : bStr K x z = true) : ∃ t, PySem.W.nsIn K mainGlobals x = some (some (.str z t)) := by
  unfold bStr at h
  split at h
  · rename_i j t e
    exact ⟨t, by rw [e, of_decide_eq_true h]⟩
  · cases h
/-- a def's code and its table -/
def bTab (K : PySem.W.Frag) (f : Addr) : Bool := match K.lookup f with
  | some ⟨_, _, .func fd, _⟩ => match fd.code with
    | .ref c => match K.lookup c with
      | some ⟨_, _, .fields vs, _⟩ => match (vs : Array Value)[11]? with
        | some (Value.ref P) => (K.lookup P).isNone
        | _ => false
      | _ => false
    | _ => false
  | _ => false
def tabP (K : PySem.W.Frag) (f : Addr) : Addr := match K.lookup f with
  | some ⟨_, _, .func fd, _⟩ => match fd.code with
    | .ref c => match K.lookup c with
      | some ⟨_, _, .fields vs, _⟩ => match (vs : Array Value)[11]? with
        | some (Value.ref P) => P
        | _ => 0
      | _ => 0
    | _ => 0
  | _ => 0
/-- a def whose keyword-only default y is () -/
def bDfl (K : PySem.W.Frag) (f : Addr) (y : Str) : Bool := match K.lookup f with
  | some ⟨_, _, .func fd, _⟩ => match fd.kwdefaults with
    | .ref D => match PySem.W.nsIn K D y with
      | some (some (.ref T)) => match K.lookup T with
        | some ⟨.type c, _, .seq dI _, _⟩ => decide (c = "tuple") && dI.toList.isEmpty
        | _ => false
      | _ => false
    | _ => false
  | _ => false
/-- the end of a law with tables over such a head -/
theorem walk_TE {l : PySem.W.OpenLaw} {n k : Nat} {q : Program} {loose : List Str} {XP : (Str → Option Value) → Heap → Prop} {YP : World → Heap → Prop} {d : DefRec} {C : PySem.W.Frag → Prop} {CX : World → CXT} {x : Str}
    (hn : l.most = some n) (hn2 : n ≤ sizeLine) (hdf : d.params.defaults = []) (hr : Room k callerA) (hY : ∀ (w : World) (h : Heap), YP w h → ∃ K : PySem.W.Frag, K.In h ∧ C K)
    (F : ∀ (w : World) (mg mb : Str → Option Value) (mean : ExcName → Option Value) (lo : List Str) (fa : Addr) (h : Heap) (K : PySem.W.Frag), Top q lo mean mg mb h → K.In h → C K → h.Ns mainGlobals mg → mg d.name = some (.ref fa) → LamX.LawAtS l w K (CX w) k n x mg fa h)
    (hCX : ∀ (w : World) (H : Hp) (s : Shared) (e : Value) (s' : Shared), CX w [] H s (fun _ _ _ => False) e s' → False) :
    PySem.W.WalkO q loose XP YP l.row.toRowW d [] (fun f vs => PySem.call f vs) := by
  refine Att.attach_callB hn hdf fun w s₀ s₁ mg mb fa o pm cd doc a vs ns G Y ho hd hcd hmg hobj hints hlen hbits hg => ?_
  obtain ⟨K, KX, c⟩ := hY w _ Y
  obtain ⟨fd, cs, sp, hT, nT, C, hb, hsp, hF⟩ := F w mg mb _ _ fa _ K G.T KX c G.T.g hmg
  exact LamX.law_callTs KX G.T.g G.T.b G.T.builtins G.T.nolimit hg hT nT C G.T.bmain hobj hints (Nat.le_trans hlen hn2) hr hF hb (fun H hH hS => hsp H a ns hlen hbits hH hS) fun H e s' => hCX w H s₁ e s'
end DV

namespace DV
open PySem L2 PySem.Spec PyProof.Rows
section
variable {cl : Str → Addr} {X : Cx} {rk : RK} {rm m : Md} {a b e : Expr} {es : List Expr} {ak : List AK} {f g : SE} {fe fi fv fk : ME} {fr : MR} {fq : MQ} {r : MA} {pos p p1 p2 apos cpos tpos : Pos} {k : Nat} {x : Str}
/-! ### dict(d), d read alone -/
def dcp : PyData → Option PyData
  | .dict ((.none, _) :: _) => none
  | .dict es => some (.dict es)
  | _ => none
theorem dcp_eq {d d' : PyData} (h : dcp d = some d') : d' = d := by
  unfold dcp at h
  split at h
  · cases h
  · cases h; rfl
  · cases h
def eDCp (f : SE) : SE := fun ρ => (f ρ).bind dcp
theorem d_dcopy (ha : DX X .bor a f) (hm : X.mg "dict" = none) (hg : Gl X "dict" := by rfl) (hb : bootBuiltins "dict" = some (.type "dict") := by decide +kernel)
    (he : starEach [a] X.env = (false, eval a X.env) :: starEach [] X.env := by rfl) (hpl : (backTo pos (starEach [] X.env)).any (·.1) = false := by rfl) : DX X .new (.Call (.Name "dict" p) [a] [] pos) (eDCp f) :=
  ⟨(pe_callTy call_dictD hg hm hb (pa_cons ha.pe pa_nil he) (by decide) (by decide) he hpl).imp fun σ H Q ⟨G0, H0, G, ρ, d, s, ed, q⟩ => by
    obtain ⟨d1, e1, e2⟩ := bind_some ed
    have := dcp_eq e2
    subst this
    refine ⟨G0, H0, G, ρ, d, s, e1, fun G1 H1 v gx r => ?_⟩
    cases r with
    | val r =>
      cases r with
      | @dK a' ks es rd h2 ra => exact ⟨a', ks, rfl, gx.gh.rd (.inr rd), fun p np => q G1 _ _ (gx.trans (Gx.mine gx.gh np)) ⟨p, rfl, gx.h.back np, gx.gh.back np, .dK upd_same h2 ra⟩⟩
      | dT rd h2 ra => cases e2
      | _ => cases e2
    | lst h r => cases e2
    | @dK a' ks es h h2 ra => exact ⟨a', ks, rfl, .inl h, fun p np => q G1 _ _ (gx.trans (Gx.mine gx.gh np)) ⟨p, rfl, gx.h.back np, gx.gh.back np, .dK upd_same h2 ra⟩⟩
    | dT h h2 ra => cases e2⟩
@[simp] theorem eDCp_r {ρ : Rho} : eDCp f ρ = (f ρ).bind dcp := rfl
/-! ### d[k] = v, v made with effects -/
def mDPutO (i : Nat) (fv fk : ME) : MS := fun ρ w => match ρ[i]? with
  | some (.own d) => (fv ρ w).bind fun v => (fk ρ v.2).bind fun k => (dPut d k.1 v.1).map fun d' => (.nx (ρ.set i (.own d')), k.2)
  | _ => none
theorem ms_dputO (i : Nat) {tpos : Pos} (hr : Room k X.A) (ha : DM cl X .val e fv) (hb : DM cl X .val b fk) (hN : X.N[i]? = some x := by rfl) (hv : Vis X.env.scope x := by first | exact Or.inl rfl | exact Or.inr (Or.inl rfl) | exact Or.inr (Or.inr rfl)) (hd : (x == ("__debug__" : Str)) = false := by decide)
    (hcd : (x == ("__classdict__" : Str)) = false := by decide) (hs : swapsWith e (some (.Subscript (.Name x p1) b tpos)) pos.line X.env = pure false := by rfl) : DSM cl X rk (.Assign [.Subscript (.Name x p1) b tpos] e pos) (mDPutO i fv fk) :=
  ⟨(ps_dput (hu_of hr) (pv i hN hv hd hcd) hb.pe ha.pe hs).imp fun D σ H ⟨F, H0, G, ρ, w, α, o, w', s, e, q⟩ => by
    unfold mDPutO at e
    split at e
    · rename_i d h
      obtain ⟨⟨v, w1⟩, e1, e⟩ := bind_some e
      obtain ⟨⟨kd, w2⟩, e2, e⟩ := bind_some e
      obtain ⟨d', e3, e⟩ := map_some e
      cases e
      refine ⟨F, H0, G, ρ, w, α, v, w1, s, e1, fun G1 H1 α1 u n1 s1 r1 => ?_⟩
      obtain ⟨p, h1, h2, h3, h4⟩ := s1.sok.own h
      refine ⟨_, h1, F, H0, G1, ρ, w1, α1, kd, w2, s1, e2, fun G2 H2 α2 y n2 s2 r2 => ?_⟩
      obtain ⟨p', k1, k2, k3, k4⟩ := s2.sok.own h
      rw [h1] at k1; cases k1
      obtain ⟨ho, z1, z2⟩ := dput_ok s2.sok.gx.gh k4 (.val r2.1) (Rep.mono n2.g r1.1) e3
      exact ⟨p, _, rfl, z1, q G2 σ _ α2 (n1.trans n2).wx (s2.sok' (Ex.refl _) (s2.sok.write h h1 k2 k3 z2))⟩
    · cases e⟩
@[simp] theorem mDPutO_r {i : Nat} {ρ : Rho} {w : Wd} : mDPutO i fv fk ρ w = (match getS ρ i with
  | some (.own d) => (fv ρ w).bind fun v => (fk ρ v.2).bind fun k => (dPut d k.1 v.1).map fun d' => (.nx (ρ.set i (.own d')), k.2)
  | _ => none) := by rw [getS_eq]; rfl
end
end DV

namespace DV
open PySem L2 PySem.Spec PyProof.Rows
/-! ### truth of a list of the world; `a or b` -/
def mTrL (fr : MR) : MB := fun ρ w => (fr ρ w).bind fun x => match x.2[x.1]? with
  | some (.lst l) => some (!l.isEmpty, x.2)
  | _ => none
def mOrL (fr : MR) (fq : MQ) : MQ := fun ρ w => (fr ρ w).bind fun x => match x.2[x.1]? with
  | some (.lst l) => if l.isEmpty = true then fq ρ x.2 else some (.r x.1, x.2)
  | _ => none
section
variable {cl : Str → Addr} {X : Cx} {a b e tg iter elt : Expr} {rest : List Expr} {fr : MR} {fq : MQ} {f g : ME} {pos : Pos} {t : MB} {x : Str} {vs : List Nat}
theorem RepVA.emp {K : PySem.W.Frag} {G : Hp} {α : Pl} {n : Nat} : ∀ {l : List WV} {us : List V}, RepVA K G α n l us → us.isEmpty = l.isEmpty
  | _, _, .nil => rfl
  | _, _, .cons _ _ => rfl
theorem mt_trL (ha : DR cl X a fr) (he : ∀ whole, isTrue a X.env whole = (do let v ← whole; standAt a.pos; holding [v] (truthy v)) := by intro _; rfl) : DTM cl X a (mTrL fr) :=
  ⟨(pt_truth ha.pe he).imp fun σ H Q ⟨F, H0, G, ρ, w, α, d, w', s, e, q⟩ => by
    obtain ⟨⟨h, w1⟩, e1, e⟩ := bind_some e
    simp only [] at e
    split at e
    · rename_i l e2
      cases e
      refine ⟨F, H0, G, ρ, w, α, h, _, s, e1, fun G' H' α' n s' hh => ?_⟩
      obtain ⟨us, hu, rl⟩ := s'.ww.lst e2
      exact ⟨_, .inl ⟨us, SqL.of hu, by rw [rl.emp]⟩, q G' H' α' n s'⟩
    · cases e⟩
theorem q_one {op} (h : DQ cl X a fq) : DQ cl X (.BoolOp op [a] pos) fq := ⟨pe_one h.pe⟩
theorem q_orL (ha : DR cl X a fr) (hb : DQ cl X (.BoolOp .Or (b :: rest) pos) fq) : DQ cl X (.BoolOp .Or (a :: b :: rest) pos) (mOrL fr fq) :=
  ⟨(pe_orT ha.pe hb.pe).imp fun σ H Q ⟨F, H0, G, ρ, w, α, d, w', s, e, q⟩ => by
    obtain ⟨⟨h, w1⟩, e1, e⟩ := bind_some e
    simp only [] at e
    split at e
    · rename_i l e2
      refine ⟨F, H0, G, ρ, w, α, h, w1, s, e1, fun G' H' α' n s' hh => ?_⟩
      obtain ⟨us, hu, rl⟩ := s'.ww.lst e2
      refine ⟨!l.isEmpty, .inl ⟨us, SqL.of hu, by rw [rl.emp]⟩, ?_⟩
      split at e
      · rename_i c
        rw [c]
        exact iteF ⟨F, H0, G', ρ, w1, α', d, w', s', e, fun G2 H2 α2 v n2 s2 r2 => q G2 H2 α2 v (n.trans n2) s2 r2⟩
      · rename_i c
        have c : l.isEmpty = false := by cases z : l.isEmpty with
          | true => exact absurd z c
          | false => rfl
        rw [c]
        cases e
        exact iteT (q G' H' α' _ n s' (.r hh))
    · cases e⟩
/-! ### a comprehension over a list of the world -/
def tGVw (K : PySem.W.Frag) (cl : Str → Addr) (vs : List Nat) (gv : WV → Rho → Option Rho) : TG := fun v σ H Q => ∃ F H0 G ρ w α x ρ', Nok K cl F H0 G ρ σ H w α ∧ RepV K G α w.length x v ∧ gv x ρ = some ρ' ∧ ∀ σ', σ'.length = σ.length → (∀ i, i ∉ vs → σ'[i]? = σ[i]?) → Nok K cl F H0 G ρ' σ' H w α → Q σ' H
structure DGVw (cl : Str → Addr) (X : Cx) (vs : List Nat) (tg : Expr) (gv : WV → Rho → Option Rho) : Prop where
  pg : PG X tg (tGVw X.K cl vs gv)
theorem dgvw_name (i : Nat) (hN : X.N.Nodup) (hv : i ∈ vs := by decide) (hi : X.N[i]? = some x := by rfl) (hx : Loc X.env.scope x := by first | exact Or.inl rfl | exact Or.inr rfl) (hf : X.fn x = true ∨ X.env.scope.names.lookup x = some .local := by first | exact .inl rfl | exact .inr rfl | assumption) : DGVw cl X vs (.Name x pos) (gvName i) :=
  ⟨(pg_name hN hi hx hf).imp fun v σ H Q ⟨F, H0, G, ρ, w, α, x, ρ', s, r, e, q⟩ => by
    obtain ⟨hl, rfl⟩ := if_some e
    exact q _ (List.length_set ..) (fun j hj => List.getElem?_set_ne (show i ≠ j from fun z => hj (z ▸ hv))) (s.setV hl r)⟩
theorem dgvw_d {g : SG} (hg : DGw X vs tg g) : DGVw cl X vs tg (gvD g) :=
  ⟨hg.pg.imp fun v σ H Q ⟨F, H0, G, ρ, w, α, x, ρ', s, r, e, q⟩ => by
    cases r with
    | d r => exact ⟨_, _, G, ρ, _, ρ', s.sok, r, e, fun σ' h1 h2 s2 => q σ' h1 h2 ⟨s2, s.ww⟩⟩
    | r h => cases e⟩
def mLcLGo (gv : WV → Rho → Option Rho) (t : MB) (e : ME) (ρ : Rho) (h n : Nat) : Nat → Wd → Option (List PyData × Wd)
  | 0, w => match w[h]? with
    | some (.lst l) => if l.length = n then some ([], w) else none
    | _ => none
  | k + 1, w => match w[h]? with
    | some (.lst l) => if l.length = n then (l[n - (k + 1)]?).bind fun x => (gv x ρ).bind fun ρ1 => (t ρ1 w).bind fun b => if b.1 = true then (e ρ1 b.2).bind fun y => (mLcLGo gv t e ρ h n k y.2).map fun z => (y.1 :: z.1, z.2) else mLcLGo gv t e ρ h n k b.2 else none
    | _ => none
def mLcL (fr : MR) (gv : WV → Rho → Option Rho) (t : MB) (e : ME) (vs : List Nat) : ME := fun ρ w => (fr ρ w).bind fun x => match x.2[x.1]? with
  | some (.lst l) => (mLcLGo gv t e (wipeR ρ vs) x.1 l.length l.length x.2).bind fun y => if y.1.length ≤ sizeLine then some (.list y.1, y.2) else none
  | _ => none
variable {gv : WV → Rho → Option Rho} {own : List (Str × Nat)} {ifs : List Expr} {scope : Scope}
theorem m_lcL (hc : X.calm = true) (hN : X.N.Nodup) (hvs : own.map (·.2) = vs) (hi : DR cl X iter fr) (ok : BlkOk X.N X.env.scope scope own)
    (hg : ∀ (s : Shared) (H : Hp) (C : Addr) (c2 : List (Str × Addr)) (fp : List Addr), DGVw cl (X.blk s H scope (compEnvC scope c2 C X.env) fp) vs tg gv)
    (ht : ∀ (s : Shared) (H : Hp) (C : Addr) (c2 : List (Str × Addr)) (fp : List Addr), DTMs cl (X.blk s H scope (compEnvC scope c2 C X.env) fp) ifs t)
    (he : ∀ (s : Shared) (H : Hp) (C : Addr) (c2 : List (Str × Addr)) (fp : List Addr), DM cl (X.blk s H scope (compEnvC scope c2 C X.env) fp) .val elt f)
    (hs : ∀ x, foldedSetIterable iter X.env x = pure x := by intro _; rfl) : DM cl X .new (.ListComp elt [⟨tg, iter, ifs, 0⟩] scope pos) (mLcL fr gv t f vs) := by
  subst hvs
  exact ⟨(pe_lc (g := tGVw X.K cl (own.map (·.2)) gv) (tt := tTM X.K cl t) (te := tM X.K cl .val f) hc hN (pi_any hi.pe) ok (fun s H C c2 fp => (hg s H C c2 fp).pg) (fun s H C c2 fp => (ht s H C c2 fp).pts) (fun s H C c2 fp => (he s H C c2 fp).pe) hs).imp fun σ H Q ⟨F, H0, G, ρ, w, α, d, w', s, ed, q⟩ => by
    obtain ⟨⟨h, w1⟩, e1, ed⟩ := bind_some ed
    simp only [] at ed
    split at ed
    · rename_i l0 e5
      obtain ⟨⟨ys, w2⟩, e2, ed⟩ := bind_some ed
      obtain ⟨hl, e3⟩ := if_some ed
      have hl : ys.length ≤ sizeLine := hl
      cases e3
      refine ⟨F, H0, G, ρ, w, α, h, w1, s, e1, fun G1 H1 α1 n1 s1 hh => ?_⟩
      obtain ⟨vs0, hv0, rl0⟩ := s1.ww.lst e5
      refine .inl ⟨_, rfl, ⟨vs0, SqL.of hv0⟩, fun D hD => ?_⟩
      have gD0 : G1 D = none := s1.gh.back hD
      have dD0 : ¬ dom α1 w1 D := fun z => by
        obtain ⟨u, hu, _⟩ := s1.ww.there z
        rw [hD] at hu; cases hu
      let St (i : Nat) (Hi : Hp) : Prop := ∃ Gi wi αi done rest us, Nx G1 H1 w1 α1 Gi Hi wi αi ∧ WW X.K cl Gi Hi αi wi ∧ Gi D = none ∧ ¬ dom αi wi D ∧ Hi D = some (.lst us) ∧ RepA X.K Gi done us ∧ ys = done ++ rest ∧ i ≤ l0.length ∧ mLcLGo gv t f (wipeR ρ (own.map (·.2))) h l0.length (l0.length - i) wi = some (rest, w2)
      refine ⟨fun i m Hi => m = l0.length - i ∧ St i Hi, ⟨_, rfl, G1, w1, α1, [], ys, [], Nx.refl.mut hD, s1.ww'.mut gD0 dD0, gD0, dD0, upd_same, .nil, rfl, Nat.zero_le _, e2⟩, ?_⟩
      rintro i m Hi ⟨rfl, Gi, wi, αi, done, rest, us, nx, W, gD, dD, eD, ra, ey, hi, hr⟩
      have si := s1.back (Bk.of nx W)
      have ea : αi.a h = α1.a h := (nx.wx.al h hh).1
      by_cases hlt : i < l0.length
      · obtain ⟨k, hk⟩ : ∃ k, l0.length - i = k + 1 := ⟨l0.length - i - 1, by omega⟩
        rw [hk] at hr
        unfold mLcLGo at hr
        split at hr
        · rename_i l e6
          obtain ⟨hl6, hr⟩ := ite_some hr
          obtain ⟨y0, e7, hr⟩ := bind_some hr
          obtain ⟨ρ1, e8, hr⟩ := bind_some hr
          obtain ⟨⟨kk, w4⟩, e9, hr⟩ := bind_some hr
          have hki : l0.length - (k + 1) = i := by omega
          rw [hki] at e7
          obtain ⟨vs, hv, rl⟩ := si.ww.lst e6
          rw [ea] at hv
          obtain ⟨v, h1, h2⟩ := rl.get e7
          have hk2 : l0.length - (i + 1) = k := by omega
          refine .inr ⟨⟨vs, v, SqL.of hv, h1⟩, St (i + 1), fun H' p => ⟨_, by omega, rfl, p⟩, fun y H' hy => ?_⟩
          obtain ⟨rfl, hy⟩ := hy
          have hy := hy vs (SqL.of hv)
          rw [h1] at hy; cases hy
          have s3 := si.wipe (own.map (·.2))
          refine ⟨F, H0, Gi, _, wi, αi, y0, ρ1, s3, h2, e8, fun σ2 l2 k2 s2 => ⟨?_, ?_⟩⟩
          · rw [wipe_eq (own.map (·.2)) (L2.wipe σ (own.map (·.2))) σ2 l2 k2]
            exact wipe_eq (own.map (·.2)) σ (L2.wipe σ (own.map (·.2))) (wipe_length _ _) fun j hj => wipe_out hj
          · have keep : ∀ {G' H2 : Hp} {w2 : Wd} {α2 : Pl}, Nx Gi H' wi αi G' H2 w2 α2 → G' D = none ∧ H2 D = some (.lst us) ∧ ¬ dom α2 w2 D := fun {G' H2 w2 α2} n2 => by
              have h1 := n2.h D (.lst us) (by rw [hideW_out dD]; exact eD)
              have z : ¬ dom α2 w2 D := fun z => by rw [hideW_in z] at h1; cases h1
              rw [hideW_out z] at h1
              refine ⟨?_, h1, z⟩
              cases e : G' D with
              | none => rfl
              | some u =>
                rcases n2.nw D (by rw [e]; simp) with y | y
                · exact absurd gD y
                · rw [hideW_out dD, eD] at y; exact (show False from y).elim
            refine ⟨F, H0, Gi, ρ1, wi, αi, kk, w4, s2, e9, fun G4 H4 α4 n34 s4 => ?_⟩
            cases kk with
            | false =>
              obtain ⟨k1, k2, k3⟩ := keep n34
              exact iteF ⟨G4, w4, α4, done, rest, us, nx.trans n34, s4.ww', k1, k3, k2, ra.mono n34.g, ey, hlt, by rw [hk2]; exact hr⟩
            | true =>
              refine iteT ?_
              obtain ⟨⟨y, w5⟩, e3, hr⟩ := bind_some (show _ = some (rest, w2) from hr)
              obtain ⟨⟨r2, w6⟩, e4, hr⟩ := map_some hr
              cases hr
              refine ⟨F, H0, G4, ρ1, w4, α4, y, w5, s4, e3, fun G5 H5 α5 v n5 s5 r5 => ?_⟩
              have n35 := n34.trans n5
              obtain ⟨k1, k2, k3⟩ := keep n35
              refine ⟨us, k2, ?_, G5, w5, α5, done ++ [y], r2, us ++ [v], (nx.trans n35).mut hD, s5.ww'.mut k1 k3, k1, k3, upd_same, (ra.mono n35.g).app (.cons r5.1 .nil), by rw [ey]; simp, hlt, by rw [hk2]; exact e4⟩
              rw [← ra.len]
              have : ys.length = done.length + (r2.length + 1) := by rw [ey]; simp
              omega
        · cases hr
      · have ei : i = l0.length := by omega
        subst ei
        rw [Nat.sub_self] at hr
        unfold mLcLGo at hr
        split at hr
        · rename_i l e6
          obtain ⟨hl6, hr⟩ := ite_some hr
          cases hr
          obtain ⟨vs, hv, rl⟩ := si.ww.lst e6
          rw [ea] at hv
          have ra2 : RepA X.K Gi ys us := by rw [ey, List.append_nil]; exact ra
          have rn : RN X.K .new H1 w2 αi Gi Hi (.list ys) (.ref D) := ⟨⟨D, rfl, hD, gD, .lst eD ra2⟩, fun _ p e => by cases e; exact dD⟩
          exact .inl ⟨⟨vs, SqL.of hv, by rw [← rl.len, hl6]; exact Nat.le_refl _⟩, q Gi Hi αi _ (n1.trans nx) si (rn.start (.inr rfl) fun p hp => n1.dom' s1.ww s1.gh hp)⟩
        · cases hr
    · cases ed⟩
end
/-! ### == of a nested list of the world and data -/
def deepL (f : WV → Option PyData) : List WV → Option (List PyData)
  | [] => some []
  | x :: r => (f x).bind fun d => (deepL f r).map (d :: ·)
def deepW : Nat → Wd → WV → Option PyData
  | _, _, .d d => some d
  | 0, _, .r _ => none
  | n + 1, w, .r h => match w[h]? with
    | some (.lst l) => (deepL (deepW n w) l).map .list
    | _ => none
section
variable {K : PySem.W.Frag} {cl : Str → Addr} {G H : Hp} {w : Wd} {α : Pl}
theorem deepL_dp {f : WV → Option PyData} (hf : ∀ x d v, f x = some d → d.canLay0 = true → RepV K G α w.length x v → Dp K H v d) : ∀ {l : List WV} {ds : List PyData} {us : List V}, deepL f l = some ds → PyData.canLayAll0 ds = true → RepVA K G α w.length l us → DpAll K H us ds
  | [], ds, us, h, c, r => by
    cases h
    cases r
    exact .nil
  | x :: l, ds, us, h, c, r => by
    obtain ⟨d, h1, h⟩ := bind_some (show (f x).bind (fun d => (deepL f l).map (d :: ·)) = some ds from h)
    obtain ⟨ds2, h2, h3⟩ := map_some h
    cases h3
    have c' : d.canLay0 = true ∧ PyData.canLayAll0 ds2 = true := by simpa [PyData.canLayAll0] using c
    cases r with
    | cons r1 r2 => exact .cons (hf _ _ _ h1 c'.1 r1) (deepL_dp hf h2 c'.2 r2)
theorem deep_dp (gh : Ex G H) (ob : ∀ h o, w[h]? = some o → ObjW K cl G α w.length H h o) : ∀ (n : Nat) {x : WV} {d : PyData} {v : V}, deepW n w x = some d → d.canLay0 = true → RepV K G α w.length x v → Dp K H v d
  | n, .d d', d, v, h, c, r => by
    unfold deepW at h
    cases h
    cases r with
    | d r => exact r.dp gh c
  | 0, .r h', d, v, h, c, r => by cases h
  | n + 1, .r h', d, v, h, c, r => by
    unfold deepW at h
    split at h
    · rename_i l e
      obtain ⟨ds, h1, h2⟩ := map_some h
      cases h2
      cases r with
      | r hh =>
        obtain ⟨us, hu, rl⟩ := ob _ _ e
        exact .lst (SqL.of hu) (deepL_dp (fun x d v e c r => deep_dp gh ob n e c r) h1 (by simpa [PyData.canLay0] using c) rl)
    · cases h
end
def mEqN (ne : Bool) (f : MQ) (g : ME) : MB := fun ρ w => (f ρ w).bind fun x => (g ρ x.2).bind fun y => (deepW 3 y.2 x.1).bind fun d => if SeqAt.shaped d = true ∧ SeqAt.shaped y.1 = true then some (ne ^^ PyData.eqv d y.1, y.2) else none
section
variable {cl : Str → Addr} {X : Cx} {a b : Expr} {f : MQ} {g : ME} {pos : Pos} {k : Nat}
theorem neN_of {K : PySem.W.Frag} {σ : L2.St} {H : Hp} {Q : Bool → Hp → Prop} (q : tTM K cl (mEqN true f g) σ H Q) : tTest (tOp (rNeD K) (tQ K cl f) (tMB K cl g)) σ H Q := by
  obtain ⟨F, H0, G, ρ, w, α, d, w', s, e, q⟩ := q
  obtain ⟨⟨x, w1⟩, e1, e⟩ := bind_some e
  obtain ⟨⟨y, w2⟩, e2, e⟩ := bind_some e
  obtain ⟨dd, e3, e⟩ := bind_some e
  obtain ⟨⟨c1, c2⟩, e⟩ := if_some e
  cases e
  refine ⟨F, H0, G, ρ, w, α, x, w1, s, e1, fun G1 H1 α1 v1 n1 s1 r1 => ⟨F, H0, G1, ρ, w1, α1, y, w2, s1, e2, fun G2 H2 α2 v2 n2 s2 r2 => ?_⟩⟩
  have r1 := r1.mono n2.g n2.n n2.al
  exact ⟨dd, y, deep_dp s2.gh s2.ww.obj 3 e3 (SeqAt.canLay_of_shaped c1) r1, RepB.dp s2.gh (SeqAt.canLay_of_shaped c2) (RepB.mono (Ex.refl _) hideW_le r2), c1, c2, _, rfl, by rw [Bool.true_xor] at q; exact q G2 H2 α2 (n1.trans n2) s2⟩
theorem mt_neN (hr : Room k X.A) (ha : DQ cl X a f) (hb : DMB cl X b g) (hm : behindInMarks .NotEq b = false := by first | exact nobehind _ (by decide) (by decide) | rfl) : DTM cl X (.Compare a [.NotEq] [b] pos) (mEqN true f g) :=
  ⟨(pt_cmpR (op_neD hr.units) ha.pe hb.pe hm).imp fun _ _ _ q => neN_of q⟩
end
/-! ### isinstance of a list of the world -/
def mIsL (T : String) (fr : MR) : ME := fun ρ w => (fr ρ w).bind fun x => match x.2[x.1]? with
  | some (.lst _) => some (.bool ("list" == T), x.2)
  | _ => none
theorem m_isiL {cl : Str → Addr} {X : Cx} {a : Expr} {fr : MR} {p p1 pos : Pos} {T : String} {y : Str} (hg : Gl X "isinstance") (hm : X.mg "isinstance" = none) (ha : DR cl X a fr)
    (hgT : Gl X y) (hmT : X.mg y = none) (hvT : bootBuiltins y = some (.type T)) (ok : TyOkT T)
    (hnT : y ≠ "__name__" := by decide) (hdT : (y == ("__debug__" : Str)) = false := by decide)
    (he : starEach [a, .Name y p1] X.env = (false, eval a X.env) :: starEach [.Name y p1] X.env := by rfl) (hpl : (backTo pos (starEach [.Name y p1] X.env)).any (·.1) = false := by rfl) (h2 : starEach [.Name y p1] X.env = (false, eval (.Name y p1) X.env) :: starEach [] X.env := by rfl) :
    DM cl X .val (.Call (.Name "isinstance" p) [a, .Name y p1] [] pos) (mIsL T fr) :=
  ⟨(pe_callB call_isi hg hm PyProof.Rows.boot_isinstance (pa_cons ha.pe (pa_cons (pe_bltn (v := .ty T) hgT hmT hvT rfl hnT hdT) pa_nil h2) he) (by decide) (by decide) he hpl).imp fun σ H Q ⟨F, H0, G, ρ, w, α, d, w', s, ed, q⟩ => by
    obtain ⟨⟨h, w1⟩, e1, ed⟩ := bind_some ed
    simp only [] at ed
    split at ed
    · rename_i l e2
      cases ed
      refine ⟨F, H0, G, ρ, w, α, h, _, s, e1, fun G1 H1 α1 n1 s1 hh => ?_⟩
      obtain ⟨us, hu, rl⟩ := s1.ww.lst e2
      have kk : kitB "list" T = some ("list" == T) := ok _ (by decide)
      exact ⟨_, .ty T, .type "list", .type T, _, rfl, .ty T, .base (.lst hu), kit_ty kk, q G1 H1 α1 _ n1 s1 (.val (.bl _))⟩
    · cases ed⟩
@[simp] theorem mTrL_r {fr : MR} {ρ : Rho} {w : Wd} : mTrL fr ρ w = (fr ρ w).bind fun x => match x.2[x.1]? with
  | some (.lst l) => some (!l.isEmpty, x.2)
  | _ => none := rfl
theorem mTrL_eq {fr : MR} {ρ : Rho} {w w1 : Wd} {h : Nat} {l : List WV} (e : fr ρ w = some (h, w1)) (e2 : w1[h]? = some (.lst l)) : mTrL fr ρ w = some (!l.isEmpty, w1) := by
  unfold mTrL; rw [e, Option.bind_some]; simp only [e2]
theorem mOrL_f {fr : MR} {fq : MQ} {ρ : Rho} {w w1 : Wd} {h : Nat} (e : fr ρ w = some (h, w1)) (e2 : w1[h]? = some (.lst [])) : mOrL fr fq ρ w = fq ρ w1 := by
  unfold mOrL; rw [e, Option.bind_some]; simp only [e2]; rfl
theorem mOrL_t {fr : MR} {fq : MQ} {ρ : Rho} {w w1 : Wd} {h : Nat} {l : List WV} (e : fr ρ w = some (h, w1)) (e2 : w1[h]? = some (.lst l)) (hl : l ≠ []) : mOrL fr fq ρ w = some (.r h, w1) := by
  unfold mOrL; rw [e, Option.bind_some]; simp only [e2]
  rw [if_neg (by cases l with | nil => exact absurd rfl hl | cons a b => exact Bool.false_ne_true)]
theorem mIsL_eq {T : String} {fr : MR} {ρ : Rho} {w w1 : Wd} {h : Nat} {l : List WV} (e : fr ρ w = some (h, w1)) (e2 : w1[h]? = some (.lst l)) : mIsL T fr ρ w = some (.bool ("list" == T), w1) := by
  unfold mIsL; rw [e, Option.bind_some]; simp only [e2]
theorem mEqN_eq {ne : Bool} {f : MQ} {g : ME} {ρ : Rho} {w w1 w2 : Wd} {x : WV} {y d : PyData} (e : f ρ w = some (x, w1)) (e2 : g ρ w1 = some (y, w2)) (e3 : deepW 3 w2 x = some d) (h1 : SeqAt.shaped d = true) (h2 : SeqAt.shaped y = true) : mEqN ne f g ρ w = some (ne ^^ PyData.eqv d y, w2) := by
  unfold mEqN; rw [e, Option.bind_some]; simp only []; rw [e2, Option.bind_some]; simp only []; rw [e3, Option.bind_some, if_pos ⟨h1, h2⟩]
/-! ### a bound of a slice over the world -/
def mSo (f : ME) : MO := fun ρ w => (f ρ w).bind fun x => match x.1 with
  | .int i => some (some i, x.2)
  | _ => none
theorem mo_so {cl : Str → Addr} {X : Cx} {e : Expr} {f : ME} (h : DM cl X .val e f) : DOM cl X (some e) (mSo f) := ⟨(po_some h.pe).imp fun σ H Q ⟨F, H0, G, ρ, w, α, o, w', s, ed, q⟩ => by
  obtain ⟨⟨d1, w1⟩, e1, ed⟩ := bind_some ed
  simp only [] at ed
  split at ed
  · cases ed
    refine ⟨F, H0, G, ρ, w, α, _, _, s, e1, fun G1 H1 α1 v n1 s1 r => ?_⟩
    cases (show Rep X.K G1 (.int _) v from r.1)
    exact ⟨_, rfl, q G1 H1 α1 n1 s1⟩
  · cases ed⟩
/-! ### x.extend(y), y an own list that stays -/
def sExtO (i j : Nat) : SS := fun ρ => match ρ[i]?, ρ[j]? with
  | some (.own (.list l)), some (.own (.list k)) => if l.length + k.length ≤ sizeLine then some (.nx (ρ.set i (.own (.list (l ++ k))))) else none
  | _, _ => none
section
variable {X : Cx} {rm : Md} {pos p1 p2 cpos apos : Pos} {x y : Str}
theorem s_extO (i j : Nat) (hij : i ≠ j := by decide) (hN : X.N[i]? = some x := by rfl) (hNj : X.N[j]? = some y := by rfl) (hv : Vis X.env.scope x := by first | exact Or.inl rfl | exact Or.inr (Or.inl rfl) | exact Or.inr (Or.inr rfl)) (hd : (x == ("__debug__" : Str)) = false := by decide)
    (hcd : (x == ("__classdict__" : Str)) = false := by decide) (hvj : Vis X.env.scope y := by first | exact Or.inl rfl | exact Or.inr (Or.inl rfl) | exact Or.inr (Or.inr rfl)) (hdj : (y == ("__debug__" : Str)) = false := by decide)
    (hcdj : (y == ("__classdict__" : Str)) = false := by decide)
    (hbase : attributeBase (.Name x p1) "extend" X.env (eval (.Name x p1) X.env) = eval (.Name x p1) X.env := by rfl)
    (hfew : ((backTo cpos (starEach (.Name y p2 :: []) X.env)).all (fun x => !x.1) && (backToKw cpos (keywordEach [] X.env)).all (fun x => x.1.isSome)
      && decide ((Expr.Name y p2 :: []).length + ([] : List Keyword).length + (if ([] : List Keyword).isEmpty then 0 else 1) < 30)) = true := by rfl)
    (hline : (apos.endLine == cpos.line) = true := by rfl) (hs : starEach (.Name y p2 :: []) X.env = (false, eval (.Name y p2) X.env) :: starEach [] X.env := by rfl) (hplain : (backTo cpos (starEach [] X.env)).any (·.1) = false := by rfl)
    (hsw : swapsWith (.Call (.Attribute (.Name x p1) "extend" apos) [.Name y p2] [] cpos) none pos.line X.env = pure false := by rfl) :
    DS X rm (.Expr (.Call (.Attribute (.Name x p1) "extend" apos) [.Name y p2] [] cpos) pos) (sExtO i j) :=
  ⟨(ps_expr (pe_bm PySem.F.plainAttrs_list PySem.F.slot_list_extend PySem.F.type_list_extend mt_extend (pv i hN hv hd hcd) (pa_cons (pv j hNj hvj hdj hcdj) pa_nil hs) hbase hfew hline hs hplain) hsw).imp
    fun D σ H ⟨G0, H0, G, ρ, o, s, e, q⟩ => by
    unfold sExtO at e
    split at e
    · rename_i l k h hj
      obtain ⟨hl, e⟩ := if_some e
      cases e
      obtain ⟨p, h1, h2, h3, h4⟩ := s.own h
      obtain ⟨b, k1, k2, k3, k4⟩ := s.own hj
      obtain ⟨vs, hv, rl⟩ := own_list h4
      obtain ⟨zs, hz, rz⟩ := own_list k4
      refine ⟨_, h1, .inl ⟨rfl, _, SqL.of hv⟩, _, k1, p, b, vs, zs, rfl, rfl, hv, hz, by rw [← rl.len, ← rz.len]; exact hl, ?_⟩
      exact q G σ _ (Ex.refl _) (s.write h h1 h2 h3 (.lst upd_same (rl.app rz)))
    · cases e⟩
end
@[simp] theorem sExtO_r {i j : Nat} {ρ : Rho} : sExtO i j ρ = (match ρ[i]?, ρ[j]? with
  | some (.own (.list l)), some (.own (.list k)) => if l.length + k.length ≤ sizeLine then some (.nx (ρ.set i (.own (.list (l ++ k))))) else none
  | _, _ => none) := rfl
end DV

namespace Lw
open PySem L2 DV
/-! ### the text -/
def topS (i : Nat) : Stmt := PySem.Challenge.pw_quirekiln_k62_whole_lines_of_words_and_b.main.body.getD i (.Pass ⟨0, 0, 0, 0⟩)
abbrev s__law_next : Stmt := topS 15
abbrev N__law_next : List Str := ["state", "many", "cell", "drawn"]
theorem sc__law_next : FnScope N__law_next ["state", "many"] (defScope s__law_next) := ⟨rfl, rfl, rfl, by decide +kernel, rfl, by decide +kernel, by decide +kernel⟩
abbrev s__law_sign : Stmt := topS 16
abbrev N__law_sign : List Str := ["state", "signs"]
theorem sc__law_sign : FnScope N__law_sign ["state"] (defScope s__law_sign) := ⟨rfl, rfl, rfl, by decide +kernel, rfl, by decide +kernel, by decide +kernel⟩
abbrev s__law_string : Stmt := topS 17
abbrev N__law_string : List Str := ["state", "parts", "text", "k"]
theorem sc__law_string : FnScope N__law_string ["state"] (defScope s__law_string) := ⟨rfl, rfl, rfl, by decide +kernel, rfl, by decide +kernel, by decide +kernel⟩
abbrev s_units : Stmt := topS 3
abbrev N_units : List Str := ["char"]
theorem sc_units : FnScope N_units ["char"] (defScope s_units) := ⟨rfl, rfl, rfl, by decide +kernel, rfl, by decide +kernel, by decide +kernel⟩
abbrev s_advance : Stmt := topS 4
abbrev N_advance : List Str := ["char", "size"]
theorem sc_advance : FnScope N_advance ["char", "size"] (defScope s_advance) := ⟨rfl, rfl, rfl, by decide +kernel, rfl, by decide +kernel, by decide +kernel⟩
abbrev s_offsets : Stmt := topS 5
abbrev N_offsets : List Str := ["string", "size", "sums", "char"]
theorem sc_offsets : FnScope N_offsets ["string", "size"] (defScope s_offsets) := ⟨rfl, rfl, rfl, by decide +kernel, rfl, by decide +kernel, by decide +kernel⟩
abbrev s_paragraphs : Stmt := topS 7
abbrev N_paragraphs : List Str := ["string", "found", "start", "part"]
theorem sc_paragraphs : FnScope N_paragraphs ["string"] (defScope s_paragraphs) := ⟨rfl, rfl, rfl, by decide +kernel, rfl, by decide +kernel, by decide +kernel⟩
abbrev s_words : Stmt := topS 8
abbrev N_words : List Str := ["string", "start", "end", "found", "begin", "index"]
theorem sc_words : FnScope N_words ["string", "start", "end"] (defScope s_words) := ⟨rfl, rfl, rfl, by decide +kernel, rfl, by decide +kernel, by decide +kernel⟩
abbrev s_text_units : Stmt := topS 10
abbrev N_text_units : List Str := ["child", "string", "size", "sums", "found", "before", "start", "end", "last", "first", "stop", "space"]
theorem sc_text_units : FnScope N_text_units ["child", "string", "size"] (defScope s_text_units) := ⟨rfl, rfl, rfl, by decide +kernel, rfl, by decide +kernel, by decide +kernel⟩
abbrev s__law_paragraphs : Stmt := topS 21
abbrev N__law_paragraphs : List Str := ["text", "found", "start", "part"]
theorem sc__law_paragraphs : FnScope N__law_paragraphs ["text"] (defScope s__law_paragraphs) := ⟨rfl, rfl, rfl, by decide +kernel, rfl, by decide +kernel, by decide +kernel⟩
abbrev s__law_words : Stmt := topS 20
abbrev N__law_words : List Str := ["text", "start", "end", "found", "k"]
theorem sc__law_words : FnScope N__law_words ["text", "start", "end"] (defScope s__law_words) := ⟨rfl, rfl, rfl, by decide +kernel, rfl, by decide +kernel, by decide +kernel⟩
abbrev s__law_advance : Stmt := topS 18
abbrev N__law_advance : List Str := ["char", "scale"]
theorem sc__law_advance : FnScope N__law_advance ["char", "scale"] (defScope s__law_advance) := ⟨rfl, rfl, rfl, by decide +kernel, rfl, by decide +kernel, by decide +kernel⟩
abbrev s__law_extent : Stmt := topS 19
abbrev N__law_extent : List Str := ["text", "scale", "char"]
theorem sc__law_extent : FnScope N__law_extent ["text", "scale"] (defScope s__law_extent) := ⟨rfl, rfl, rfl, by decide +kernel, rfl, by decide +kernel, by decide +kernel⟩
abbrev s__law_units : Stmt := topS 24
abbrev N__law_units : List Str := ["child", "text", "scale", "found", "rows", "k", "before", "start", "end", "space"]
theorem sc__law_units : FnScope N__law_units ["child", "text", "scale"] (defScope s__law_units) := ⟨rfl, rfl, rfl, by decide +kernel, rfl, by decide +kernel, by decide +kernel⟩
abbrev s__law_pieces : Stmt := topS 22
abbrev N__law_pieces : List Str := ["items", "texts", "widths", "scales", "gap", "pieces", "child", "start", "end", "right", "first"]
theorem sc__law_pieces : FnScope N__law_pieces ["items", "texts", "widths", "scales", "gap"] (defScope s__law_pieces) := ⟨rfl, rfl, rfl, by decide +kernel, rfl, by decide +kernel, by decide +kernel⟩
abbrev s__law_lines : Stmt := topS 23
abbrev N__law_lines : List Str := ["order", "texts", "widths", "scales", "room", "gap", "lines", "items", "child", "rows", "k", "words_v", "start", "end", "last", "row"]
theorem sc__law_lines : FnScope N__law_lines ["order", "texts", "widths", "scales", "room", "gap"] (defScope s__law_lines) := ⟨rfl, rfl, rfl, by decide +kernel, rfl, by decide +kernel, by decide +kernel⟩
abbrev s_line_width : Stmt := topS 11
abbrev N_line_width : List Str := ["line"]
theorem sc_line_width : FnScope N_line_width ["line"] (defScope s_line_width) := ⟨rfl, rfl, rfl, by decide +kernel, rfl, by decide +kernel, by decide +kernel⟩
abbrev s_set_lines : Stmt := topS 12
abbrev N_set_lines : List Str := ["units", "room", "gap", "lines", "line", "kind", "child", "start", "end", "width", "space", "goes_on", "left", "last"]
theorem sc_set_lines : FnScope N_set_lines ["units", "room", "gap"] (defScope s_set_lines) := ⟨rfl, rfl, rfl, by decide +kernel, rfl, by decide +kernel, by decide +kernel⟩
abbrev s_place_pieces : Stmt := topS 13
abbrev N_place_pieces : List Str := ["lines", "heights", "room", "align", "found", "top", "widest", "line", "rest", "moved", "tallest", "child", "start", "end", "x", "width", "height", "piece"]
theorem sc_place_pieces : FnScope N_place_pieces ["lines", "heights", "room", "align"] (defScope s_place_pieces) := ⟨rfl, rfl, rfl, by decide +kernel, rfl, by decide +kernel, by decide +kernel⟩
abbrev s__law_placed : Stmt := topS 25
abbrev N__law_placed : List Str := ["lines", "heights", "room", "align", "found", "top", "widest", "line", "width", "tall", "rest", "moved", "child", "start", "end", "x", "w", "piece"]
theorem sc__law_placed : FnScope N__law_placed ["lines", "heights", "room", "align"] (defScope s__law_placed) := ⟨rfl, rfl, rfl, by decide +kernel, rfl, by decide +kernel, by decide +kernel⟩
abbrev s__law_is_integer : Stmt := topS 26
abbrev N__law_is_integer : List Str := ["value"]
theorem sc__law_is_integer : FnScope N__law_is_integer ["value"] (defScope s__law_is_integer) := ⟨rfl, rfl, rfl, by decide +kernel, rfl, by decide +kernel, by decide +kernel⟩
abbrev s_law : Stmt := topS 27
abbrev N_law : List Str := ["script", "state", "order", "texts", "widths", "scales", "heights", "row", "child", "told", "gap", "k", "room", "due", "handed", "lines", "align", "wide", "line"]
theorem sc_law : FnScope N_law ["script"] (defScope s_law) := ⟨rfl, rfl, rfl, by decide +kernel, rfl, by decide +kernel, by decide +kernel⟩
/-! ### the functions on data -/
noncomputable section
/-- _law_next(state, many): slots 0 state, 1 many, 2 cell, 3 drawn -/
def B__law_next : MS :=
  (mSeq (mIf (mT (mOp oLt (mD (mIx (mR (mVar 0)) (mL (eK (.int 1))))) (mL (eB 1))))
    (mIf (mT (mOp oGt (mLenL (mR (mIx (mR (mVar 0)) (mL (eK (.int 0)))))) (mL (eK (.int 0)))))
      (mSeq (mSet 2 (mD (mMth lPopAt (mR (mIx (mR (mVar 0)) (mL (eK (.int 0))))) (maD (mL (eK (.int 0))) maNil))))
      (mSeq (mPutI (mR (mVar 0)) (mL (eK (.int 1))) (mQ (mL (eIf (bT (eOp oGe (eB 2) (eK (.int 0)))) (eOp oMulS (eK (.int 2)) (eB 2)) (eOp oSub (eOp oMulS (eUn oNeg (eK (.int 2))) (eB 2)) (eK (.int 1)))))))
      (mPutI (mR (mVar 0)) (mL (eK (.int 2))) (mQ (mOp oMod (mF cInt (maD (mOp oAdd (mOp oMulS (mD (mIx (mR (mVar 0)) (mL (eK (.int 2))))) (mL (eK (.int 69621)))) (mD (mIx (mR (mVar 0)) (mL (eK (.int 1)))))) maNil)) (mL (eK (.int 2147483647))))))))
      (mSeq (mPutI (mR (mVar 0)) (mL (eK (.int 2))) (mQ (mOp oMod (mF cInt (maD (mOp oAdd (mOp oMulS (mD (mIx (mR (mVar 0)) (mL (eK (.int 2))))) (mL (eK (.int 48271)))) (mL (eK (.int 11)))) maNil)) (mL (eK (.int 2147483647))))))
      (mPutI (mR (mVar 0)) (mL (eK (.int 1))) (mQ (mOp oMod (mF cInt (maD (mOp oMulS (mD (mIx (mR (mVar 0)) (mL (eK (.int 2))))) (mD (mIx (mR (mVar 0)) (mL (eK (.int 2)))))) maNil)) (mL (eK (.int 1000003))))))))
    mNext)
  (mSeq (mSet 3 (mOp oMod (mF cInt (maD (mD (mIx (mR (mVar 0)) (mL (eK (.int 1))))) maNil)) (mL (eB 1))))
  (mSeq (mPutI (mR (mVar 0)) (mL (eK (.int 1))) (mQ (mOp oFdiv (mD (mIx (mR (mVar 0)) (mL (eK (.int 1))))) (mL (eB 1)))))
  (mRet (mL (eV 3))))))
def F__law_next : MF := box (runW 4 (.md .val) [.q, (.md .bor)] B__law_next)
/-- _law_sign(state): slots 0 state, 1 signs -/
def B__law_sign : MS :=
  (mSeq (mS (sSet 1 (eK (.str "!\"#$&'()*+,-./0123456789:;<=>?@ABCDEFGHIJKLMNOPQRSTUVWXYZ[\\]^_`"))))
  (mSeq (mS (sSet 1 (eOp oAdd (eB 1) (eK (.str "abcdefghijklmnopqrstuvwxyz{|}~")))))
  (mRet (mOp oIx (mL (eB 1)) (mCall F__law_next (maQ (mVar 0) (maD (mL (eCall cLen (aCons (eB 1) aNil))) maNil)))))))
def F__law_sign : MF := box (runW 2 (.md .val) [.q] B__law_sign)
def L__law_string_1 : MS :=
  (mSeq (mSet 2 (mOp oAdd (mOp oAdd (mL (eB 2)) (mOp oIx (mL (eB 1)) (mCall F__law_next (maQ (mVar 0) (maD (mL (eK (.int 11))) maNil))))) (mOp oIx (mL (eLst (aCons (eK (.str "")) (aCons (eK (.str " ")) (aCons (eK (.str " ")) (aCons (eK (.str "\n")) aNil)))))) (mCall F__law_next (maQ (mVar 0) (maD (mL (eK (.int 4))) maNil))))))
  (mIf (mT (mOp oEq (mCall F__law_next (maQ (mVar 0) (maD (mL (eK (.int 3))) maNil))) (mL (eK (.int 0)))))
    (mSet 2 (mOp oAdd (mL (eB 2)) (mCall F__law_sign (maQ (mVar 0) maNil))))
    mNext))
/-- _law_string(state): slots 0 state, 1 parts, 2 text, 3 k -/
def B__law_string : MS :=
  (mSeq (mS (sSet 1 (eLst (aCons (eK (.str "ab")) (aCons (eK (.str "i")) (aCons (eK (.str "wide")) (aCons (eK (.str "mm.")) (aCons (eK (.str "x")) (aCons (eK (.str " ")) (aCons (eK (.str "  ")) (aCons (eK (.str "\n")) (aCons (eK (.str "\n\n")) (aCons (eK (.str "long,word")) (aCons (eK (.str "W")) aNil))))))))))))))
  (mSeq (mS (sSet 2 (eK (.str ""))))
  (mSeq (mFor (mArgsI rng1 (maD (mOp oIx (mL (eLst (aCons (eK (.int 0)) (aCons (eK (.int 1)) (aCons (eK (.int 3)) (aCons (eK (.int 6)) (aCons (eK (.int 12)) aNil))))))) (mCall F__law_next (maQ (mVar 0) (maD (mL (eK (.int 5))) maNil)))) maNil)) (gV 3) L__law_string_1)
  (mRet (mL (eV 2))))))
def F__law_string : MF := box (runW 4 (.md .val) [.q] B__law_string)
/-- units(char): slots 0 char -/
def B_units : SS :=
  (sSeqn (sIf (bT (eOp oEq (eB 0) (eK (.str "\n"))))
    (sRet (eK (.int 0)))
    sNext)
  (sSeqn (sIf (bT (eOp oIn (eB 0) (eK (.str " .,':;!|ijl"))))
    (sRet (eK (.int 1)))
    sNext)
  (sSeqn (sIf (bT (eOp oIn (eB 0) (eK (.str "mwMW@"))))
    (sRet (eK (.int 3)))
    sNext)
  (sRet (eK (.int 2))))))
def F_units : List PyData → Option PyData := box (runF 1 .val [.bor] B_units)
/-- advance(char, size): slots 0 char, 1 size -/
def B_advance : SS :=
  (sRet (eOp oMulS (eCall F_units (aCons (eB 0) aNil)) (eB 1)))
def F_advance : List PyData → Option PyData := box (runF 2 .val [.bor, .bor] B_advance)
def L_offsets_1 : SS :=
  (sMut fApp 2 (aCons (eOp oAdd (eOp oIx (eB 2) (eUn oNeg (eK (.int 1)))) (eCall F_advance (aCons (eB 3) (aCons (eB 1) aNil)))) aNil))
/-- offsets(string, size): slots 0 string, 1 size, 2 sums, 3 char -/
def B_offsets : SS :=
  (sSeqn (sOwn 2 (eLst (aCons (eK (.int 0)) aNil)))
  (sSeqn (sFor (sSeq (eP 0)) (gV 3) L_offsets_1)
  (sRetOwn 2)))
def F_offsets : List PyData → Option PyData := box (runF 4 .new [.bor, .bor] B_offsets)
def L_paragraphs_1 : SS :=
  (sSeqn (sMut fApp 1 (aCons (eTup (aCons (eV 2) (aCons (eOp oAdd (eB 2) (eCall cLen (aCons (eB 3) aNil))) aNil))) aNil))
  (sAug 2 addI (eOp oAdd (eCall cLen (aCons (eB 3) aNil)) (eK (.int 1)))))
/-- paragraphs(string): slots 0 string, 1 found, 2 start, 3 part -/
def B_paragraphs : SS :=
  (sSeqn (sOwn 1 (eLst aNil))
  (sSeqn (sSet 2 (eK (.int 0)))
  (sSeqn (sFor (sSeq (eOp oSplit (eB 0) (eK (.str "\n")))) (gV 3) L_paragraphs_1)
  (sRetOwn 1))))
def F_paragraphs : List PyData → Option PyData := box (runF 4 .new [.bor] B_paragraphs)
def L_words_1 : SS :=
  (sIf (bOr (bT (eOp oEq (eOp oIx (eB 0) (eB 5)) (eK (.str " ")))) (bT (eOp oEq (eOp oIx (eB 0) (eB 5)) (eK (.str "\n")))))
    (sSeqn (sIf (bT (eOp oNotN (eB 4) (eK (.none))))
      (sMut fApp 3 (aCons (eTup (aCons (eV 4) (aCons (eV 5) aNil))) aNil))
      sNext)
    (sSet 4 (eK (.none))))
    (sIf (bT (eOp oIsN (eB 4) (eK (.none))))
      (sSet 4 (eV 5))
      sNext))
/-- words(string, start, end): slots 0 string, 1 start, 2 end, 3 found, 4 begin, 5 index -/
def B_words : SS :=
  (sSeqn (sOwn 3 (eLst aNil))
  (sSeqn (sSet 4 (eK (.none)))
  (sSeqn (sFor (sArgs rng2 (aCons (eV 1) (aCons (eV 2) aNil))) (gV 5) L_words_1)
  (sSeqn (sIf (bT (eOp oNotN (eB 4) (eK (.none))))
    (sMut fApp 3 (aCons (eTup (aCons (eV 4) (aCons (eV 2) aNil))) aNil))
    sNext)
  (sRetOwn 3)))))
def F_words : List PyData → Option PyData := box (runF 6 .new [.bor, .val, .val] B_words)
def L_text_units_1 : SS :=
  (sSeqn (sSet 11 (eIf (bT (eOp oIsN (eB 8) (eK (.none)))) (eK (.int 0)) (eOp oSub (eOp oIx (eB 3) (eB 9)) (eOp oIx (eB 3) (eB 8)))))
  (sSeqn (sMut fApp 4 (aCons (eTup (aCons (eK (.str "word")) (aCons (eV 0) (aCons (eV 9) (aCons (eV 10) (aCons (eOp oSub (eOp oIx (eB 3) (eB 10)) (eOp oIx (eB 3) (eB 9))) (aCons (eV 11) aNil))))))) aNil))
  (sSet 8 (eV 10))))
def L_text_units_2 : SS :=
  (sSeqn (sIf (bT (eOp oNotN (eB 5) (eK (.none))))
    (sMut fApp 4 (aCons (eTup (aCons (eK (.str "break")) (aCons (eV 0) (aCons (eV 5) (aCons (eV 5) (aCons (eK (.int 0)) (aCons (eK (.int 0)) aNil))))))) aNil))
    sNext)
  (sSeqn (sSet 5 (eV 6))
  (sSeqn (sSet 8 (eK (.none)))
  (sFor (sSeq (eCall F_words (aCons (eB 1) (aCons (eV 6) (aCons (eV 7) aNil))))) (gT 2 (gsCons (gV 9) (gsCons (gV 10) gsNil))) L_text_units_1))))
/-- text_units(child, string, size): slots 0 child, 1 string, 2 size, 3 sums, 4 found, 5 before, 6 start, 7 end, 8 last, 9 first, 10 stop, 11 space -/
def B_text_units : SS :=
  (sSeqn (sSet 3 (eCall F_offsets (aCons (eB 1) (aCons (eB 2) aNil))))
  (sSeqn (sOwn 4 (eLst aNil))
  (sSeqn (sSet 5 (eK (.none)))
  (sSeqn (sFor (sSeq (eCall F_paragraphs (aCons (eB 1) aNil))) (gT 2 (gsCons (gV 6) (gsCons (gV 7) gsNil))) L_text_units_2)
  (sRetOwn 4)))))
def F_text_units : List PyData → Option PyData := box (runF 12 .new [.val, .bor, .bor] B_text_units)
def L__law_paragraphs_1 : SS :=
  (sSeqn (sMut fApp 1 (aCons (eTup (aCons (eV 2) (aCons (eOp oAdd (eB 2) (eCall cLen (aCons (eB 3) aNil))) aNil))) aNil))
  (sSet 2 (eOp oAdd (eOp oAdd (eB 2) (eCall cLen (aCons (eB 3) aNil))) (eK (.int 1)))))
/-- _law_paragraphs(text): slots 0 text, 1 found, 2 start, 3 part -/
def B__law_paragraphs : SS :=
  (sSeqn (sOwn 1 (eLst aNil))
  (sSeqn (sSet 2 (eK (.int 0)))
  (sSeqn (sFor (sSeq (eOp oSplit (eB 0) (eK (.str "\n")))) (gV 3) L__law_paragraphs_1)
  (sRetOwn 1))))
def F__law_paragraphs : List PyData → Option PyData := box (runF 4 .new [.bor] B__law_paragraphs)
def L__law_words_1 : SS :=
  (sIf (bAnd (bT (eOp oNe (eOp oIx (eB 0) (eB 4)) (eK (.str " ")))) (bOr (bT (eOp oEq (eB 4) (eB 1))) (bT (eOp oEq (eOp oIx (eB 0) (eOp oSub (eB 4) (eK (.int 1)))) (eK (.str " "))))))
    (sMut fApp 3 (aCons (eTup (aCons (eV 4) (aCons (eOp oAdd (eB 4) (eK (.int 1))) aNil))) aNil))
    (sIf (bT (eOp oNe (eOp oIx (eB 0) (eB 4)) (eK (.str " "))))
      (sPut 3 (eTup (aCons (eOp oIx (eOp oIx (eB 3) (eUn oNeg (eK (.int 1)))) (eK (.int 0))) (aCons (eOp oAdd (eB 4) (eK (.int 1))) aNil))) (eUn oNeg (eK (.int 1))))
      sNext))
/-- _law_words(text, start, end): slots 0 text, 1 start, 2 end, 3 found, 4 k -/
def B__law_words : SS :=
  (sSeqn (sOwn 3 (eLst aNil))
  (sSeqn (sFor (sArgs rng2 (aCons (eV 1) (aCons (eV 2) aNil))) (gV 4) L__law_words_1)
  (sRetOwn 3)))
def F__law_words : List PyData → Option PyData := box (runF 5 .new [.bor, .val, .val] B__law_words)
/-- _law_advance(char, scale): slots 0 char, 1 scale -/
def B__law_advance : SS :=
  (sSeqn (sIf (bT (eOp oEq (eB 0) (eK (.str "\n"))))
    (sRet (eK (.int 0)))
    sNext)
  (sSeqn (sIf (bT (eOp oIn (eB 0) (eK (.str " .,':;!|ijl"))))
    (sRet (eV 1))
    sNext)
  (sSeqn (sIf (bT (eOp oIn (eB 0) (eK (.str "mwMW@"))))
    (sRet (eOp oMulS (eK (.int 3)) (eB 1)))
    sNext)
  (sRet (eOp oMulS (eK (.int 2)) (eB 1))))))
def F__law_advance : List PyData → Option PyData := box (runF 2 .val [.bor, .val] B__law_advance)
/-- _law_extent(text, scale): slots 0 text, 1 scale, 2 char -/
def B__law_extent : SS :=
  (sRet (eCall cSum (aCons (eLc (sSeq (eB 0)) (gV 2) bYes (eCall F__law_advance (aCons (eB 2) (aCons (eV 1) aNil))) [2]) aNil)))
def F__law_extent : List PyData → Option PyData := box (runF 3 .val [.bor, .val] B__law_extent)
def L__law_units_1 : SS :=
  (sSeqn (sSet 9 (eK (.int 0)))
  (sSeqn (sIf (bT (eOp oNotN (eB 6) (eK (.none))))
    (sSet 9 (eCall F__law_extent (aCons (eSl oSl (eB 1) (oSo (eV 6)) (oSo (eV 7))) (aCons (eV 2) aNil))))
    sNext)
  (sSeqn (sMut fApp 3 (aCons (eTup (aCons (eK (.str "word")) (aCons (eV 0) (aCons (eV 7) (aCons (eV 8) (aCons (eCall F__law_extent (aCons (eSl oSl (eB 1) (oSo (eV 7)) (oSo (eV 8))) (aCons (eV 2) aNil))) (aCons (eV 9) aNil))))))) aNil))
  (sSet 6 (eV 8)))))
def L__law_units_2 : SS :=
  (sSeqn (sIf (bT (eOp oGt (eB 5) (eK (.int 0))))
    (sMut fApp 3 (aCons (eTup (aCons (eK (.str "break")) (aCons (eV 0) (aCons (eOp oIx (eOp oIx (eB 4) (eOp oSub (eB 5) (eK (.int 1)))) (eK (.int 0))) (aCons (eOp oIx (eOp oIx (eB 4) (eOp oSub (eB 5) (eK (.int 1)))) (eK (.int 0))) (aCons (eK (.int 0)) (aCons (eK (.int 0)) aNil))))))) aNil))
    sNext)
  (sSeqn (sSet 6 (eK (.none)))
  (sFor (sSeq (eCall F__law_words (aCons (eB 1) (aCons (eOp oIx (eOp oIx (eB 4) (eB 5)) (eK (.int 0))) (aCons (eOp oIx (eOp oIx (eB 4) (eB 5)) (eK (.int 1))) aNil))))) (gT 2 (gsCons (gV 7) (gsCons (gV 8) gsNil))) L__law_units_1)))
/-- _law_units(child, text, scale): slots 0 child, 1 text, 2 scale, 3 found, 4 rows, 5 k, 6 before, 7 start, 8 end, 9 space -/
def B__law_units : SS :=
  (sSeqn (sOwn 3 (eLst aNil))
  (sSeqn (sSet 4 (eCall F__law_paragraphs (aCons (eB 1) aNil)))
  (sSeqn (sFor (sArgs rng1 (aCons (eCall cLen (aCons (eB 4) aNil)) aNil)) (gV 5) L__law_units_2)
  (sRetOwn 3))))
def F__law_units : List PyData → Option PyData := box (runF 10 .new [.val, .bor, .val] B__law_units)
def L__law_pieces_1 : SS :=
  (sSeqn (sSet 9 (eK (.int 0)))
  (sSeqn (sIf (bT (eOp oGt (eCall cLen (aCons (eB 5) aNil)) (eK (.int 0))))
    (sSet 9 (eOp oAdd (eOp oAdd (eOp oIx (eOp oIx (eB 5) (eUn oNeg (eK (.int 1)))) (eK (.int 3))) (eOp oIx (eOp oIx (eB 5) (eUn oNeg (eK (.int 1)))) (eK (.int 4)))) (eB 4)))
    sNext)
  (sIf (bAnd (bT (eOp oDIn (eB 6) (eB 1))) (bAnd (bT (eOp oGt (eCall cLen (aCons (eB 5) aNil)) (eK (.int 0)))) (bT (eOp oEq (eOp oIx (eOp oIx (eB 5) (eUn oNeg (eK (.int 1)))) (eK (.int 0))) (eB 6)))))
    (sSeqn (sSet 10 (eOp oIx (eOp oIx (eB 5) (eUn oNeg (eK (.int 1)))) (eK (.int 1))))
    (sPut 5 (eTup (aCons (eV 6) (aCons (eV 10) (aCons (eV 8) (aCons (eOp oIx (eOp oIx (eB 5) (eUn oNeg (eK (.int 1)))) (eK (.int 3))) (aCons (eCall F__law_extent (aCons (eSl oSl (eOp oDGet (eB 1) (eB 6)) (oSo (eV 10)) (oSo (eV 8))) (aCons (eOp oDGet (eB 3) (eB 6)) aNil))) aNil)))))) (eUn oNeg (eK (.int 1)))))
    (sIf (bT (eOp oDIn (eB 6) (eB 1)))
      (sMut fApp 5 (aCons (eTup (aCons (eV 6) (aCons (eV 7) (aCons (eV 8) (aCons (eV 9) (aCons (eCall F__law_extent (aCons (eSl oSl (eOp oDGet (eB 1) (eB 6)) (oSo (eV 7)) (oSo (eV 8))) (aCons (eOp oDGet (eB 3) (eB 6)) aNil))) aNil)))))) aNil))
      (sMut fApp 5 (aCons (eTup (aCons (eV 6) (aCons (eK (.int 0)) (aCons (eK (.int 0)) (aCons (eV 9) (aCons (eOp oDGet (eB 2) (eB 6)) aNil)))))) aNil))))))
/-- _law_pieces(items, texts, widths, scales, gap): slots 0 items, 1 texts, 2 widths, 3 scales, 4 gap, 5 pieces, 6 child, 7 start, 8 end, 9 right, 10 first -/
def B__law_pieces : SS :=
  (sSeqn (sOwn 5 (eLst aNil))
  (sSeqn (sFor (sSeq (eP 0)) (gT 3 (gsCons (gV 6) (gsCons (gV 7) (gsCons (gV 8) gsNil)))) L__law_pieces_1)
  (sRetOwn 5)))
def F__law_pieces : List PyData → Option PyData := box (runF 11 .new [.bor, .bor, .bor, .bor, .bor] B__law_pieces)
def L__law_lines_1 : SS :=
  (sSeqn (sSet 14 (eOp oIx (eCall F__law_pieces (aCons (eOp oCat (eB 7) (eLst (aCons (eTup (aCons (eV 8) (aCons (eV 12) (aCons (eV 13) aNil)))) aNil))) (aCons (eB 1) (aCons (eB 2) (aCons (eB 3) (aCons (eB 5) aNil)))))) (eUn oNeg (eK (.int 1)))))
  (sSeqn (sIf (bAnd (bT (eOp oGt (eCall cLen (aCons (eB 7) aNil)) (eK (.int 0)))) (bAnd (bT (eOp oNotN (eB 4) (eK (.none)))) (bT (eOp oGt (eOp oAdd (eOp oIx (eB 14) (eK (.int 3))) (eOp oIx (eB 14) (eK (.int 4)))) (eB 4)))))
    (sSeqn (sMut fApp 6 (aCons (eV 7) aNil))
    (sSet 7 (eLst aNil)))
    sNext)
  (sSet 7 (eOp oCat (eB 7) (eLst (aCons (eTup (aCons (eV 8) (aCons (eV 12) (aCons (eV 13) aNil)))) aNil))))))
def L__law_lines_2 : SS :=
  (sSeqn (sIf (bAnd (bT (eOp oGt (eB 10) (eK (.int 0)))) (bT (eOp oEq (eCall cLen (aCons (eB 7) aNil)) (eK (.int 0)))))
    (sMut fApp 6 (aCons (eLst (aCons (eTup (aCons (eV 8) (aCons (eOp oIx (eOp oIx (eB 9) (eOp oSub (eB 10) (eK (.int 1)))) (eK (.int 0))) (aCons (eOp oIx (eOp oIx (eB 9) (eOp oSub (eB 10) (eK (.int 1)))) (eK (.int 0))) aNil)))) aNil)) aNil))
    (sIf (bT (eOp oGt (eB 10) (eK (.int 0))))
      (sSeqn (sMut fApp 6 (aCons (eV 7) aNil))
      (sSet 7 (eLst aNil)))
      sNext))
  (sSeqn (sSet 11 (eLst (aCons (eTup (aCons (eK (.int 0)) (aCons (eK (.int 0)) aNil))) aNil)))
  (sSeqn (sIf (bT (eOp oDIn (eB 8) (eB 1)))
    (sSet 11 (eCall F__law_words (aCons (eOp oDGet (eB 1) (eB 8)) (aCons (eOp oIx (eOp oIx (eB 9) (eB 10)) (eK (.int 0))) (aCons (eOp oIx (eOp oIx (eB 9) (eB 10)) (eK (.int 1))) aNil)))))
    sNext)
  (sFor (sSeq (eV 11)) (gT 2 (gsCons (gV 12) (gsCons (gV 13) gsNil))) L__law_lines_1))))
def L__law_lines_3 : SS :=
  (sSeqn (sSet 9 (eLst (aCons (eTup (aCons (eK (.int 0)) (aCons (eK (.int 0)) aNil))) aNil)))
  (sSeqn (sIf (bT (eOp oDIn (eB 8) (eB 1)))
    (sSet 9 (eCall F__law_paragraphs (aCons (eOp oDGet (eB 1) (eB 8)) aNil)))
    sNext)
  (sFor (sArgs rng1 (aCons (eCall cLen (aCons (eB 9) aNil)) aNil)) (gV 10) L__law_lines_2)))
/-- _law_lines(order, texts, widths, scales, room, gap): slots 0 order, 1 texts, 2 widths, 3 scales, 4 room, 5 gap, 6 lines, 7 items, 8 child, 9 rows, 10 k, 11 words_v, 12 start, 13 end, 14 last, 15 row -/
def B__law_lines : SS :=
  (sSeqn (sOwn 6 (eLst aNil))
  (sSeqn (sSet 7 (eLst aNil))
  (sSeqn (sFor (sSeq (eP 0)) (gV 8) L__law_lines_3)
  (sSeqn (sIf (bT (eOp oGt (eCall cLen (aCons (eB 7) aNil)) (eK (.int 0))))
    (sMut fApp 6 (aCons (eV 7) aNil))
    sNext)
  (sRet (eLc (sSeq (eB 6)) (gV 15) bYes (eCall F__law_pieces (aCons (eB 15) (aCons (eB 1) (aCons (eB 2) (aCons (eB 3) (aCons (eB 5) aNil)))))) [15]))))))
def F__law_lines : List PyData → Option PyData := box (runF 16 .new [.bor, .bor, .bor, .bor, .bor, .bor] B__law_lines)
/-- line_width(line): slots 0 line -/
def B_line_width : SS :=
  (sSeqn (sIf (bNot (bV (eB 0)))
    (sRet (eK (.int 0)))
    sNext)
  (sRet (eOp oAdd (eOp oIx (eOp oIx (eB 0) (eUn oNeg (eK (.int 1)))) (eK (.int 3))) (eOp oIx (eOp oIx (eB 0) (eUn oNeg (eK (.int 1)))) (eK (.int 4))))))
def F_line_width : List PyData → Option PyData := box (runF 1 .val [.bor] B_line_width)
def L_set_lines_1 : MS :=
  (mSeq (mIf (mLB (bT (eOp oEq (eB 5) (eK (.str "break")))))
    (mSeq (mExprQ (mMth lApp (mR (mVar 3)) (maQ (mOrL (mR (mVar 4)) (mQR (mMk (mL (eLst (aCons (eTup (aCons (eV 6) (aCons (eV 7) (aCons (eV 8) (aCons (eK (.int 0)) (aCons (eK (.int 0)) aNil)))))) aNil)))))) maNil)))
    (mSeq (mAny 4 (mQR (mMk (mL (eLst aNil)))))
    (mS sCnt)))
    mNext)
  (mSeq (mSet 11 (mAndV (mL (eOp oEq (eB 5) (eK (.str "word")))) (mAndV (mOp oGt (mLenL (mR (mVar 4))) (mL (eK (.int 0)))) (mOp oEq (mOp oIx (mD (mIx (mR (mVar 4)) (mL (eUn oNeg (eK (.int 1)))))) (mL (eK (.int 0)))) (mL (eB 6))))))
  (mSeq (mSet 12 (mOp oAdd (mFB F_line_width (maQ (mVar 4) maNil)) (mL (eIf (bV (eB 11)) (eV 10) (eV 2)))))
  (mSeq (mIf (mAndB (mTrL (mR (mVar 4))) (mAndB (mLB (bT (eOp oNotN (eB 1) (eK (.none))))) (mLB (bT (eOp oGt (eOp oAdd (eB 12) (eB 9)) (eB 1))))))
    (mSeq (mExprQ (mMth lApp (mR (mVar 3)) (maQ (mVar 4) maNil)))
    (mAny 4 (mQR (mMk (mL (eLst aNil))))))
    mNext)
  (mIf (mNot (mTrL (mR (mVar 4))))
    (mExprQ (mMth lApp (mR (mVar 4)) (maQ (mQ (mL (eTup (aCons (eV 6) (aCons (eV 7) (aCons (eV 8) (aCons (eK (.int 0)) (aCons (eV 9) aNil)))))))) maNil)))
    (mIf (mLB (bV (eB 11)))
      (mSeq (mSet 13 (mD (mIx (mR (mVar 4)) (mL (eUn oNeg (eK (.int 1)))))))
      (mPutI (mR (mVar 4)) (mL (eUn oNeg (eK (.int 1)))) (mQ (mL (eTup (aCons (eV 6) (aCons (eOp oIx (eB 13) (eK (.int 1))) (aCons (eV 8) (aCons (eOp oIx (eB 13) (eK (.int 3))) (aCons (eOp oSub (eOp oAdd (eB 12) (eB 9)) (eOp oIx (eB 13) (eK (.int 3)))) aNil))))))))))
      (mExprQ (mMth lApp (mR (mVar 4)) (maQ (mQ (mL (eTup (aCons (eV 6) (aCons (eV 7) (aCons (eV 8) (aCons (eV 12) (aCons (eV 9) aNil)))))))) maNil)))))))))
/-- set_lines(units, room, gap): slots 0 units, 1 room, 2 gap, 3 lines, 4 line, 5 kind, 6 child, 7 start, 8 end, 9 width, 10 space, 11 goes_on, 12 left, 13 last -/
def B_set_lines : MS :=
  (mSeq (mAny 3 (mQR (mMk (mL (eLst aNil)))))
  (mSeq (mAny 4 (mQR (mMk (mL (eLst aNil)))))
  (mSeq (mFor (mSeqI (mPar 0)) (gT 6 (gsCons (gV 5) (gsCons (gV 6) (gsCons (gV 7) (gsCons (gV 8) (gsCons (gV 9) (gsCons (gV 10) gsNil))))))) L_set_lines_1)
  (mSeq (mIf (mTrL (mR (mVar 4)))
    (mExprQ (mMth lApp (mR (mVar 3)) (maQ (mVar 4) maNil)))
    mNext)
  (mRetQ (mVar 3))))))
def F_set_lines : MF := box (runW 14 .any [(.md .bor), (.md .bor), (.md .val)] B_set_lines)
def L_place_pieces_1 : MS :=
  (mSeq (mS (sSet 16 (eOp oDGet (eB 1) (eB 11))))
  (mS (sMut fApp 4 (aCons (eTup (aCons (eV 11) (aCons (eV 12) (aCons (eV 13) (aCons (eOp oAdd (eB 14) (eB 9)) (aCons (eOp oSub (eOp oAdd (eB 5) (eB 10)) (eB 16)) (aCons (eV 15) (aCons (eV 16) aNil)))))))) aNil))))
def L_place_pieces_2 : MS :=
  (mSeq (mSet 8 (mF cMax2 (maD (mL (eK (.int 0))) (maD (mOp oSub (mL (eB 2)) (mFB F_line_width (maQ (mVar 7) maNil))) maNil))))
  (mSeq (mS (sSet 9 (eK (.int 0))))
  (mSeq (mIf (mLB (bT (eOp oEq (eB 3) (eK (.str "right")))))
    (mS (sSet 9 (eV 8)))
    (mIf (mLB (bT (eOp oEq (eB 3) (eK (.str "center")))))
      (mS (sSet 9 (eOp oFdiv (eB 8) (eK (.int 2)))))
      mNext))
  (mSeq (mSet 10 (mF cMaxL (maD (mLcL (mR (mVar 7)) (gvD (gV 17)) (mLB bYes) (mL (eOp oDGet (eB 1) (eOp oIx (eB 17) (eK (.int 0))))) [17]) maNil)))
  (mSeq (mForL (mR (mVar 7)) (gvD (gT 5 (gsCons (gV 11) (gsCons (gV 12) (gsCons (gV 13) (gsCons (gV 14) (gsCons (gV 15) gsNil))))))) L_place_pieces_1)
  (mSeq (mS (sAug 5 addI (eV 10)))
  (mSet 6 (mF cMax2 (maD (mL (eV 6)) (maD (mFB F_line_width (maQ (mVar 7) maNil)) maNil))))))))))
/-- place_pieces(lines, heights, room, align): slots 0 lines, 1 heights, 2 room, 3 align, 4 found, 5 top, 6 widest, 7 line, 8 rest, 9 moved, 10 tallest, 11 child, 12 start, 13 end, 14 x, 15 width, 16 height, 17 piece -/
def B_place_pieces : MS :=
  (mSeq (mS (sOwn 4 (eLst aNil)))
  (mSeq (mS (sSet 5 (eK (.int 0))))
  (mSeq (mS (sSet 6 (eK (.int 0))))
  (mSeq (mForL (mR (mVar 0)) (gvName 7) L_place_pieces_2)
  (mFz 4 (mRet (mL (eTup (aCons (eV 6) (aCons (eV 5) (aCons (eV 4) aNil)))))))))))
def F_place_pieces : MF := box (runW 18 (.md .val) [.q, (.md .bor), (.md .bor), (.md .bor)] B_place_pieces)
def L__law_placed_1 : SS :=
  (sMut fApp 4 (aCons (eTup (aCons (eV 12) (aCons (eV 13) (aCons (eV 14) (aCons (eOp oAdd (eB 15) (eB 11)) (aCons (eOp oSub (eOp oAdd (eB 5) (eB 9)) (eOp oDGet (eB 1) (eB 12))) (aCons (eV 16) (aCons (eOp oDGet (eB 1) (eB 12)) aNil)))))))) aNil))
def L__law_placed_2 : SS :=
  (sSeqn (sSet 8 (eOp oAdd (eOp oIx (eOp oIx (eB 7) (eUn oNeg (eK (.int 1)))) (eK (.int 3))) (eOp oIx (eOp oIx (eB 7) (eUn oNeg (eK (.int 1)))) (eK (.int 4)))))
  (sSeqn (sSet 9 (eCall cMaxL (aCons (eLc (sSeq (eB 7)) (gV 17) bYes (eOp oDGet (eB 1) (eOp oIx (eB 17) (eK (.int 0)))) [17]) aNil)))
  (sSeqn (sSet 10 (eCall cMax2 (aCons (eK (.int 0)) (aCons (eOp oSub (eB 2) (eB 8)) aNil))))
  (sSeqn (sSet 11 (eBm oDGet2 (eDsp [((eK (.str "right")), (eV 10)), ((eK (.str "center")), (eOp oFdiv (eB 10) (eK (.int 2))))]) (aCons (eB 3) (aCons (eK (.int 0)) aNil))))
  (sSeqn (sFor (sSeq (eV 7)) (gT 5 (gsCons (gV 12) (gsCons (gV 13) (gsCons (gV 14) (gsCons (gV 15) (gsCons (gV 16) gsNil)))))) L__law_placed_1)
  (sSeqn (sSet 5 (eOp oAdd (eB 5) (eB 9)))
  (sSet 6 (eCall cMax2 (aCons (eB 6) (aCons (eB 8) aNil))))))))))
/-- _law_placed(lines, heights, room, align): slots 0 lines, 1 heights, 2 room, 3 align, 4 found, 5 top, 6 widest, 7 line, 8 width, 9 tall, 10 rest, 11 moved, 12 child, 13 start, 14 end, 15 x, 16 w, 17 piece -/
def B__law_placed : SS :=
  (sSeqn (sOwn 4 (eLst aNil))
  (sSeqn (sSet 5 (eK (.int 0)))
  (sSeqn (sSet 6 (eK (.int 0)))
  (sSeqn (sFor (sSeq (eP 0)) (gV 7) L__law_placed_2)
  (sFz 4 (sRet (eTup (aCons (eV 6) (aCons (eV 5) (aCons (eV 4) aNil))))))))))
def F__law_placed : List PyData → Option PyData := box (runF 18 .val [.bor, .bor, .bor, .bor] B__law_placed)
/-- _law_is_integer(value): slots 0 value -/
def B__law_is_integer : SS :=
  (sRet (eAnd (eIs "int" (eB 0)) (eNot (eIs "bool" (eB 0)))))
def F__law_is_integer : List PyData → Option PyData := box (runF 1 .val [.bor] B__law_is_integer)
def L_law_1 : MS :=
  (mSeq (mDPutO 6 (mCall F__law_next (maQ (mVar 1) (maD (mL (eK (.int 21))) maNil))) (mL (eV 8)))
  (mIf (mT (mOp oGt (mCall F__law_next (maQ (mVar 1) (maD (mL (eK (.int 3))) maNil))) (mL (eK (.int 0)))))
    (mSeq (mDPutO 3 (mCall F__law_string (maQ (mVar 1) maNil)) (mL (eV 8)))
    (mSeq (mDPutO 5 (mOp oAdd (mL (eK (.int 1))) (mCall F__law_next (maQ (mVar 1) (maD (mOp oIx (mL (eLst (aCons (eK (.int 6)) (aCons (eK (.int 20)) aNil)))) (mCall F__law_next (maQ (mVar 1) (maD (mL (eK (.int 2))) maNil)))) maNil)))) (mL (eV 8)))
    (mSeq (mS (sDPut 6 (eCall cMax2 (aCons (eK (.int 1)) (aCons (eOp oDGet (eB 6) (eB 8)) aNil))) (eB 8)))
    (mSeq (mS (sOwn 9 (eCall F_text_units (aCons (eV 8) (aCons (eOp oDGet (eB 3) (eB 8)) (aCons (eOp oDGet (eB 5) (eB 8)) aNil))))))
    (mSeq (mIf (mLB (bOr (bNot (bV (eIs "list" (eB 9)))) (bT (eOp oNe (eB 9) (eCall F__law_units (aCons (eV 8) (aCons (eOp oDGet (eB 3) (eB 8)) (aCons (eOp oDGet (eB 5) (eB 8)) aNil))))))))
      (mRet (mL (eK (.bool false))))
      mNext)
    (mS (sExtO 7 9)))))))
    (mSeq (mDPutO 4 (mOp oIx (mLst (maD (mL (eK (.int 0))) (maD (mCall F__law_next (maQ (mVar 1) (maD (mL (eK (.int 20))) maNil))) (maD (mCall F__law_next (maQ (mVar 1) (maD (mL (eK (.int 61))) maNil))) maNil)))) (mCall F__law_next (maQ (mVar 1) (maD (mL (eK (.int 3))) maNil)))) (mL (eV 8)))
    (mS (sMut fApp 7 (aCons (eTup (aCons (eK (.str "box")) (aCons (eV 8) (aCons (eK (.int 0)) (aCons (eK (.int 0)) (aCons (eOp oDGet (eB 4) (eB 8)) (aCons (eK (.int 0)) aNil))))))) aNil))))))
def L_law_2 : MS :=
  (mSeq (mSet 12 (mOp oIx (mLst (maD (mL (eK (.none))) (maD (mL (eK (.int 0))) (maD (mCall F__law_next (maQ (mVar 1) (maD (mL (eK (.int 40))) maNil))) (maD (mCall F__law_next (maQ (mVar 1) (maD (mL (eK (.int 121))) maNil))) (maD (mCall F__law_next (maQ (mVar 1) (maD (mL (eK (.int 1001))) maNil))) maNil)))))) (mCall F__law_next (maQ (mVar 1) (maD (mL (eK (.int 5))) maNil)))))
  (mSeq (mS (sSet 13 (eCall F__law_lines (aCons (eB 2) (aCons (eB 3) (aCons (eB 4) (aCons (eB 5) (aCons (eB 12) (aCons (eB 10) aNil)))))))))
  (mSeq (mS (sSet 14 (eCall cList (aCons (eB 7) aNil))))
  (mSeq (mAny 15 (mCallQ F_set_lines (maD (mL (eB 14)) (maD (mL (eB 12)) (maD (mL (eV 10)) maNil)))))
  (mSeq (mIf (mOrB (mNot (mV (mIsL "list" (mR (mVar 15))))) (mOrB (mEqN true (mVar 15) (mL (eB 13))) (mLB (bT (eOp oNe (eB 14) (eB 7))))))
    (mRet (mL (eK (.bool false))))
    mNext)
  (mSeq (mIf (mOrB (mT (mOp oNe (mLcL (mR (mVar 15)) (gvName 18) (mLB bYes) (mFB F_line_width (maQ (mVar 18) maNil)) [18]) (mL (eLc (sSeq (eB 13)) (gV 18) bYes (eOp oAdd (eOp oIx (eOp oIx (eB 18) (eUn oNeg (eK (.int 1)))) (eK (.int 3))) (eOp oIx (eOp oIx (eB 18) (eUn oNeg (eK (.int 1)))) (eK (.int 4)))) [18])))) (mLB (bT (eOp oNe (eCall F_line_width (aCons (eLst aNil) aNil)) (eK (.int 0))))))
    (mRet (mL (eK (.bool false))))
    mNext)
  (mSeq (mSet 16 (mOp oIx (mL (eLst (aCons (eK (.str "left")) (aCons (eK (.str "center")) (aCons (eK (.str "right")) (aCons (eK (.str "full")) aNil)))))) (mCall F__law_next (maQ (mVar 1) (maD (mL (eK (.int 4))) maNil)))))
  (mSeq (mS (sSet 17 (eK (.int 150))))
  (mSeq (mIf (mLB (bT (eOp oNotN (eB 12) (eK (.none)))))
    (mS (sSet 17 (eV 12)))
    mNext)
  (mSeq (mS (sOwn 9 (eDCp (eB 6))))
  (mSeq (mIf (mOrB (mT (mOp oNe (mCall F_place_pieces (maQ (mVar 15) (maD (mL (eB 9)) (maD (mL (eB 17)) (maD (mL (eB 16)) maNil))))) (mL (eCall F__law_placed (aCons (eB 13) (aCons (eB 6) (aCons (eB 17) (aCons (eB 16) aNil)))))))) (mOrB (mEqN true (mVar 15) (mL (eB 13))) (mLB (bT (eOp (oDEq true) (eB 9) (eB 6))))))
    (mRet (mL (eK (.bool false))))
    mNext)
  (mSeq (mIf (mLB (bNot (bV (eCall F__law_is_integer (aCons (eCall F_line_width (aCons (eLst aNil) aNil)) aNil)))))
    (mRet (mL (eK (.bool false))))
    mNext)
  (mSeq (mIf (mT (mOp oGt (mLenL (mR (mVar 15))) (mL (eK (.int 0)))))
    (mExprQ (mMth lApp (mR (mIx (mR (mVar 15)) (mL (eK (.int 0))))) (maQ (mQ (mL (eTup (aCons (eK (.int 7)) (aCons (eK (.int 0)) (aCons (eK (.int 0)) (aCons (eK (.int 0)) (aCons (eK (.int 0)) aNil)))))))) maNil)))
    mNext)
  (mSeq (mExprQ (mMth lApp (mR (mVar 15)) (maQ (mQR (mMk (mL (eLst aNil)))) maNil)))
  (mIf (mEqN true (mCallQ F_set_lines (maD (mL (eB 7)) (maD (mL (eB 12)) (maD (mL (eV 10)) maNil)))) (mL (eB 13)))
    (mRet (mL (eK (.bool false))))
    mNext)))))))))))))))
/-- law(script): slots 0 script, 1 state, 2 order, 3 texts, 4 widths, 5 scales, 6 heights, 7 row, 8 child, 9 told, 10 gap, 11 k, 12 room, 13 due, 14 handed, 15 lines, 16 align, 17 wide, 18 line -/
def B_law : MS :=
  (mSeq (mAny 1 (mQR (mNewL (maQ (mQR (mMk (mL (eCall cList (aCons (eS 0) aNil))))) (maQ (mQ (mL (eK (.int 0)))) (maQ (mQ (mL (eK (.int 1)))) maNil))))))
  (mSeq (mSet 2 (mSlW (mQ (mL (eLst (aCons (eK (.int 7)) (aCons (eK (.int 3)) (aCons (eK (.int 12)) (aCons (eK (.int 5)) (aCons (eK (.int 9)) (aCons (eK (.int 4)) aNil))))))))) (mLO oNo) (mSo (mCall F__law_next (maQ (mVar 1) (maD (mL (eK (.int 7))) maNil))))))
  (mSeq (mS (sOwn 3 (eK (.dict []))))
  (mSeq (mS (sOwn 4 (eK (.dict []))))
  (mSeq (mS (sOwn 5 (eK (.dict []))))
  (mSeq (mS (sOwn 6 (eK (.dict []))))
  (mSeq (mS (sOwn 7 (eLst aNil)))
  (mSeq (mFor (mSeqI (mL (eV 2))) (gV 8) L_law_1)
  (mSeq (mSet 10 (mCall F__law_next (maQ (mVar 1) (maD (mOp oIx (mL (eLst (aCons (eK (.int 10)) (aCons (eK (.int 101)) aNil)))) (mCall F__law_next (maQ (mVar 1) (maD (mL (eK (.int 2))) maNil)))) maNil))))
  (mSeq (mFor (mArgsI rng1 (maD (mL (eK (.int 4))) maNil)) (gV 11) L_law_2)
  (mRet (mL (eK (.bool true))))))))))))))
def F_law : List PyData → Option PyData := box (outD (runW 19 (.md .val) [(.md .scr)] B_law))
end
/-! ### the walks -/
section
variable {P : Program} {w : World} {K : PySem.W.Frag} {mg : Str → Option Value} {base : Heap} {cl : Str → Addr}
theorem ok__law_next {f : Addr} {fd : FuncData} (F : Fun K "_law_next" "_law_next" s__law_next f fd) (z_int : mg "int" = none) (z_len : mg "len" = none) :
    FnOk P w K mg base CX0 1 f fd ["state", "many"] (spW K cl (.md .val) [.q, (.md .bor)] F__law_next) :=
  fn_okWB (b := B__law_next) F sc__law_next rfl rfl (fun cdv A outer s H E hr =>
    (mb_cons (ms_if (mt_cmpB op_lt (opf_cmpI _) (mb_v (m_q (q_ix (r_q (q_var 0)) (m_l d_int)))) (mb_var 1) (nomark _))
      (mb_one (ms_if (mt_cmpB op_gt (opf_cmpI _) (mb_v (m_lenL (r_q (q_ix (r_q (q_var 0)) (m_l d_int))) z_len)) (mb_v (m_l d_int)) (nomark _))
        (mb_cons (ms_set 2 sc__law_next.nd (m_q (q_popAt (r_q (q_ix (r_q (q_var 0)) (m_l d_int))) (m_l d_int))))
        (mb_cons (ms_putI (q_m (m_l (d_if (t_cmp op_ge (opf_cmpI _) (d_varb 2) (d_b d_int) (nomark _)) (d_op op_mulAll opf_mulAll (d_b d_int) (d_varb 2)) (d_op op_sub opf_sub (d_b (d_op op_mulAll opf_mulAll (d_b (d_un un_neg unf_neg (d_b d_int))) (d_varb 2))) (d_b d_int))))) (r_q (q_var 0)) (m_l d_int))
        (mb_one (ms_putI (q_m (m_opB op_mod (opf_intIf _ _) (mb_v (m_callTy call_int1 cf_int (av_cons av_nil) (by rfl) z_int PyProof.Rows.boot_int (ma_val (m_opB op_addAll opf_addAll (mb_v (m_opB op_mulAll opf_mulAll (mb_v (m_q (q_ix (r_q (q_var 0)) (m_l d_int)))) (mb_v (m_l d_int)))) (mb_v (m_q (q_ix (r_q (q_var 0)) (m_l d_int))))) ma_nil))) (mb_v (m_l d_int)))) (r_q (q_var 0)) (m_l d_int)))))
        (mb_cons (ms_putI (q_m (m_opB op_mod (opf_intIf _ _) (mb_v (m_callTy call_int1 cf_int (av_cons av_nil) (by rfl) z_int PyProof.Rows.boot_int (ma_val (m_opB op_addAll opf_addAll (mb_v (m_opB op_mulAll opf_mulAll (mb_v (m_q (q_ix (r_q (q_var 0)) (m_l d_int)))) (mb_v (m_l d_int)))) (mb_v (m_l d_int))) ma_nil))) (mb_v (m_l d_int)))) (r_q (q_var 0)) (m_l d_int))
        (mb_one (ms_putI (q_m (m_opB op_mod (opf_intIf _ _) (mb_v (m_callTy call_int1 cf_int (av_cons av_nil) (by rfl) z_int PyProof.Rows.boot_int (ma_val (m_opB op_mulAll opf_mulAll (mb_v (m_q (q_ix (r_q (q_var 0)) (m_l d_int)))) (mb_v (m_q (q_ix (r_q (q_var 0)) (m_l d_int))))) ma_nil))) (mb_v (m_l d_int)))) (r_q (q_var 0)) (m_l d_int))))))
      mb_nil)
    (mb_cons (ms_set 3 sc__law_next.nd (m_opB op_mod (opf_intIf _ _) (mb_v (m_callTy call_int1 cf_int (av_cons av_nil) (by rfl) z_int PyProof.Rows.boot_int (ma_val (m_q (q_ix (r_q (q_var 0)) (m_l d_int))) ma_nil))) (mb_var 1)))
    (mb_cons (ms_putI (q_m (m_opB op_fdivW opf_fdiv (mb_v (m_q (q_ix (r_q (q_var 0)) (m_l d_int)))) (mb_var 1))) (r_q (q_var 0)) (m_l d_int))
    (mb_one (ms_ret (m_l (d_var 3))))))))
theorem ok__law_sign {f : Addr} {fd : FuncData} (F : Fun K "_law_sign" "_law_sign" s__law_sign f fd) (C__law_next : Fn1W P w K mg base cl "_law_next" ["state", "many"] 1 (.md .val) [.q, (.md .bor)] F__law_next) (z_len : mg "len" = none) :
    FnOk P w K mg base CX0 2 f fd ["state"] (spW K cl (.md .val) [.q] F__law_sign) :=
  fn_okWB (b := B__law_sign) F sc__law_sign rfl rfl (fun cdv A outer s H E hr =>
    (mb_cons (ms_l (s_set 1 sc__law_sign.nd d_str))
    (mb_cons (ms_l (s_set 1 sc__law_sign.nd (d_op op_addAll opf_addAll (d_varb 1) (d_b d_str))))
    (mb_one (ms_ret (m_ixB (mb_var 1) (mb_v (m_fn C__law_next (hr.mono (by decide)) (ma_q (q_var 0) (ma_valb (m_l (d_callB call_len cf_len bor1 (by rfl) z_len PySem.boot_len (a_cons (d_varb 1) a_nil))) ma_nil))))))))))
theorem ok__law_string {f : Addr} {fd : FuncData} (F : Fun K "_law_string" "_law_string" s__law_string f fd) (C__law_next : Fn1W P w K mg base cl "_law_next" ["state", "many"] 1 (.md .val) [.q, (.md .bor)] F__law_next) (C__law_sign : Fn1W P w K mg base cl "_law_sign" ["state"] 2 (.md .val) [.q] F__law_sign) (z_range : mg "range" = none) :
    FnOk P w K mg base CX0 3 f fd ["state"] (spW K cl (.md .val) [.q] F__law_string) :=
  fn_okWB (b := B__law_string) F sc__law_string rfl rfl (fun cdv A outer s H E hr =>
    (mb_cons (ms_l (s_set 1 sc__law_string.nd (d_fz (d_lst (a_cons d_str (a_cons d_str (a_cons d_str (a_cons d_str (a_cons d_str (a_cons d_str (a_cons d_str (a_cons d_str (a_cons d_str (a_cons d_str (a_cons d_str a_nil))))))))))) (v_cons (v_cons (v_cons (v_cons (v_cons (v_cons (v_cons (v_cons (v_cons (v_cons (v_cons v_nil)))))))))))))))
    (mb_cons (ms_l (s_set 2 sc__law_string.nd d_str))
    (mb_cons (ms_for PassesOwn.never rfl (im_range1 (by rfl) z_range (ma_val (m_ixB (mb_v (m_l (d_fz (d_lst (a_cons d_int (a_cons d_int (a_cons d_int (a_cons d_int (a_cons d_int a_nil))))) (v_cons (v_cons (v_cons (v_cons (v_cons v_nil))))))))) (mb_v (m_fn C__law_next (hr.mono (by decide)) (ma_q (q_var 0) (ma_valb (m_l d_int) ma_nil))))) ma_nil)) (g_name 3 sc__law_string.nd)
      (mb_cons (ms_set 2 sc__law_string.nd (m_opB op_addAll opf_addAll (mb_v (m_opB op_addAll opf_addAll (mb_var 2) (mb_v (m_ixB (mb_var 1) (mb_v (m_fn C__law_next (hr.mono (by decide)) (ma_q (q_var 0) (ma_valb (m_l d_int) ma_nil)))))))) (mb_v (m_ixB (mb_v (m_l (d_fz (d_lst (a_cons d_str (a_cons d_str (a_cons d_str (a_cons d_str a_nil)))) (v_cons (v_cons (v_cons (v_cons v_nil)))))))) (mb_v (m_fn C__law_next (hr.mono (by decide)) (ma_q (q_var 0) (ma_valb (m_l d_int) ma_nil))))))))
      (mb_one (ms_if (mt_cmpB (op_eqD hr.units) opf_eq (mb_v (m_fn C__law_next (hr.mono (by decide)) (ma_q (q_var 0) (ma_valb (m_l d_int) ma_nil)))) (mb_v (m_l d_int)) (nomark _))
        (mb_one (ms_set 2 sc__law_string.nd (m_opB op_addAll opf_addAll (mb_var 2) (mb_v (m_fn C__law_sign (hr.mono (by decide)) (ma_q (q_var 0) ma_nil))))))
        mb_nil))))
    (mb_one (ms_ret (m_l (d_var 2))))))))
theorem ok_units {f : Addr} {fd : FuncData} (F : Fun K "units" "units" s_units f fd) {t_BROAD : Tok} (c_BROAD : mg "BROAD" = some (.str "mwMW@" t_BROAD)) {t_THIN : Tok} (c_THIN : mg "THIN" = some (.str " .,':;!|ijl" t_THIN)) :
    FnOk P w K mg base CX0 1 f fd ["char"] (spD K .val [.bor] F_units) :=
  fn_okB (b := B_units) F sc_units rfl rfl (am_bor am_nil) (fun cdv A outer s H E hr =>
    (b_cons (s_if (t_cmp (op_eqD hr.units) opf_eq (d_varb 0) (d_b d_str) (nomark _))
      (b_one (s_ret d_int))
      b_nil)
    (b_cons (s_if (t_cmp (op_inA (units65 hr)) opf_in (d_varb 0) (d_b (d_const (pe_glob (v := .str " .,':;!|ijl") rfl c_THIN ⟨_, rfl⟩) fun _ => .str _)) (by with_unfolding_all rfl))
      (b_one (s_ret d_int))
      b_nil)
    (b_cons (s_if (t_cmp (op_inA (units65 hr)) opf_in (d_varb 0) (d_b (d_const (pe_glob (v := .str "mwMW@") rfl c_BROAD ⟨_, rfl⟩) fun _ => .str _)) (by with_unfolding_all rfl))
      (b_one (s_ret d_int))
      b_nil)
    (b_one (s_ret d_int))))))
theorem ok_advance {f : Addr} {fd : FuncData} (F : Fun K "advance" "advance" s_advance f fd) (C_units : Fn1 P w K mg base "units" ["char"] 1 .val [.bor] F_units) :
    FnOk P w K mg base CX0 2 f fd ["char", "size"] (spD K .val [.bor, .bor] F_advance) :=
  fn_okB (b := B_advance) F sc_advance rfl rfl (am_bor (am_bor am_nil)) (fun cdv A outer s H E hr =>
    (b_one (s_ret (d_op op_mulAll opf_mulAll (d_b (d_fn C_units (hr.mono (by decide)) (a_cons (d_varb 0) a_nil) (am_bor am_nil))) (d_varb 1)))))
theorem ok_offsets {f : Addr} {fd : FuncData} (F : Fun K "offsets" "offsets" s_offsets f fd) (C_advance : Fn1 P w K mg base "advance" ["char", "size"] 2 .val [.bor, .bor] F_advance) :
    FnOk P w K mg base CX0 3 f fd ["string", "size"] (spD K .new [.bor, .bor] F_offsets) :=
  fn_okB (b := B_offsets) F sc_offsets rfl rfl (am_bor (am_bor am_nil)) (fun cdv A outer s H E hr =>
    (b_cons (s_own 2 sc_offsets.nd (d_lst (a_cons d_int a_nil) (v_cons v_nil)))
    (b_cons (s_for PassesOwn.never rfl (i_par (d_varp 0)) (g_name 3 sc_offsets.nd)
      (b_one (s_app 2 (d_op op_addAll opf_addAll (d_b (d_ix (d_varb 2) (d_b (d_un un_neg unf_neg (d_b d_int))))) (d_b (d_fn C_advance (hr.mono (by decide)) (a_cons (d_varb 3) (a_cons (d_varb 1) a_nil)) (am_bor (am_bor am_nil))))))))
    (b_one (s_retOwn 2)))))
theorem ok_paragraphs {f : Addr} {fd : FuncData} (F : Fun K "paragraphs" "paragraphs" s_paragraphs f fd) (z_len : mg "len" = none) :
    FnOk P w K mg base CX0 1 f fd ["string"] (spD K .new [.bor] F_paragraphs) :=
  fn_okB (b := B_paragraphs) F sc_paragraphs rfl rfl (am_bor am_nil) (fun cdv A outer s H E hr =>
    (b_cons (s_own 1 sc_paragraphs.nd (d_lst a_nil v_nil))
    (b_cons (s_set 2 sc_paragraphs.nd d_int)
    (b_cons (s_for PassesOwn.never rfl (i_val (d_fz (d_split (d_varb 0) (d_b d_str)))) (g_name 3 sc_paragraphs.nd)
      (b_cons (s_app 1 (d_tup (a_cons (d_var 2) (a_cons (d_op op_addAll opf_addAll (d_varb 2) (d_b (d_callB call_len cf_len bor1 (by rfl) z_len PySem.boot_len (a_cons (d_varb 3) a_nil)))) a_nil)) (v_cons (v_cons v_nil))))
      (b_one (s_augAdd 2 sc_paragraphs.nd (d_op op_addAll opf_addAll (d_b (d_callB call_len cf_len bor1 (by rfl) z_len PySem.boot_len (a_cons (d_varb 3) a_nil))) (d_b d_int))))))
    (b_one (s_retOwn 1))))))
theorem ok_words {f : Addr} {fd : FuncData} (F : Fun K "words" "words" s_words f fd) (z_range : mg "range" = none) :
    FnOk P w K mg base CX0 1 f fd ["string", "start", "end"] (spD K .new [.bor, .val, .val] F_words) :=
  fn_okB (b := B_words) F sc_words rfl rfl (am_bor (am_val (am_val am_nil))) (fun cdv A outer s H E hr =>
    (b_cons (s_own 3 sc_words.nd (d_lst a_nil v_nil))
    (b_cons (s_set 4 sc_words.nd d_non)
    (b_cons (s_for PassesOwn.never rfl (i_range2 (by rfl) z_range (a_cons (d_var 1) (a_cons (d_var 2) a_nil))) (g_name 5 sc_words.nd)
      (b_one (s_if (t_w (w_or (t_cmp (op_eqD hr.units) opf_eq (d_b (d_ix (d_varb 0) (d_varb 5))) (d_b d_str) (nomark _)) (w_or1 (t_cmp (op_eqD hr.units) opf_eq (d_b (d_ix (d_varb 0) (d_varb 5))) (d_b d_str) (nomark _)))))
        (b_cons (s_if (t_cmp op_notN opf_notN (d_varb 4) (d_b d_non) (nomark _))
          (b_one (s_app 3 (d_tup (a_cons (d_var 4) (a_cons (d_var 5) a_nil)) (v_cons (v_cons v_nil)))))
          b_nil)
        (b_one (s_set 4 sc_words.nd d_non)))
        (b_one (s_if (t_cmp op_isN opf_isN (d_varb 4) (d_b d_non) (nomark _))
          (b_one (s_set 4 sc_words.nd (d_var 5)))
          b_nil)))))
    (b_cons (s_if (t_cmp op_notN opf_notN (d_varb 4) (d_b d_non) (nomark _))
      (b_one (s_app 3 (d_tup (a_cons (d_var 4) (a_cons (d_var 2) a_nil)) (v_cons (v_cons v_nil)))))
      b_nil)
    (b_one (s_retOwn 3)))))))
theorem ok_text_units {f : Addr} {fd : FuncData} (F : Fun K "text_units" "text_units" s_text_units f fd) (C_offsets : Fn1 P w K mg base "offsets" ["string", "size"] 3 .new [.bor, .bor] F_offsets) (C_paragraphs : Fn1 P w K mg base "paragraphs" ["string"] 1 .new [.bor] F_paragraphs) (C_words : Fn1 P w K mg base "words" ["string", "start", "end"] 1 .new [.bor, .val, .val] F_words) :
    FnOk P w K mg base CX0 4 f fd ["child", "string", "size"] (spD K .new [.val, .bor, .bor] F_text_units) :=
  fn_okB (b := B_text_units) F sc_text_units rfl rfl (am_val (am_bor (am_bor am_nil))) (fun cdv A outer s H E hr =>
    (b_cons (s_set 3 sc_text_units.nd (d_fz (d_fn C_offsets (hr.mono (by decide)) (a_cons (d_varb 1) (a_cons (d_varb 2) a_nil)) (am_bor (am_bor am_nil)))))
    (b_cons (s_own 4 sc_text_units.nd (d_lst a_nil v_nil))
    (b_cons (s_set 5 sc_text_units.nd d_non)
    (b_cons (s_for PassesOwn.never rfl (i_val (d_fz (d_fn C_paragraphs (hr.mono (by decide)) (a_cons (d_varb 1) a_nil) (am_bor am_nil)))) (g_tup rfl (gs_cons (g_name 6 sc_text_units.nd) (gs_cons (g_name 7 sc_text_units.nd) gs_nil)))
      (b_cons (s_if (t_cmp op_notN opf_notN (d_varb 5) (d_b d_non) (nomark _))
        (b_one (s_app 4 (d_tup (a_cons d_str (a_cons (d_var 0) (a_cons (d_var 5) (a_cons (d_var 5) (a_cons d_int (a_cons d_int a_nil)))))) (v_cons (v_cons (v_cons (v_cons (v_cons (v_cons v_nil)))))))))
        b_nil)
      (b_cons (s_set 5 sc_text_units.nd (d_var 6))
      (b_cons (s_set 8 sc_text_units.nd d_non)
      (b_one (s_for PassesOwn.never rfl (i_val (d_fz (d_fn C_words (hr.mono (by decide)) (a_cons (d_varb 1) (a_cons (d_var 6) (a_cons (d_var 7) a_nil))) (am_bor (am_val (am_val am_nil)))))) (g_tup rfl (gs_cons (g_name 9 sc_text_units.nd) (gs_cons (g_name 10 sc_text_units.nd) gs_nil)))
        (b_cons (s_set 11 sc_text_units.nd (d_if (t_cmp op_isN opf_isN (d_varb 8) (d_b d_non) (nomark _)) d_int (d_op op_sub opf_sub (d_b (d_ix (d_varb 3) (d_varb 9))) (d_b (d_ix (d_varb 3) (d_varb 8))))))
        (b_cons (s_app 4 (d_tup (a_cons d_str (a_cons (d_var 0) (a_cons (d_var 9) (a_cons (d_var 10) (a_cons (d_op op_sub opf_sub (d_b (d_ix (d_varb 3) (d_varb 10))) (d_b (d_ix (d_varb 3) (d_varb 9)))) (a_cons (d_var 11) a_nil)))))) (v_cons (v_cons (v_cons (v_cons (v_cons (v_cons v_nil))))))))
        (b_one (s_set 8 sc_text_units.nd (d_var 10)))))))))))
    (b_one (s_retOwn 4)))))))
theorem ok__law_paragraphs {f : Addr} {fd : FuncData} (F : Fun K "_law_paragraphs" "_law_paragraphs" s__law_paragraphs f fd) (z_len : mg "len" = none) :
    FnOk P w K mg base CX0 1 f fd ["text"] (spD K .new [.bor] F__law_paragraphs) :=
  fn_okB (b := B__law_paragraphs) F sc__law_paragraphs rfl rfl (am_bor am_nil) (fun cdv A outer s H E hr =>
    (b_cons (s_own 1 sc__law_paragraphs.nd (d_lst a_nil v_nil))
    (b_cons (s_set 2 sc__law_paragraphs.nd d_int)
    (b_cons (s_for PassesOwn.never rfl (i_val (d_fz (d_split (d_varb 0) (d_b d_str)))) (g_name 3 sc__law_paragraphs.nd)
      (b_cons (s_app 1 (d_tup (a_cons (d_var 2) (a_cons (d_op op_addAll opf_addAll (d_varb 2) (d_b (d_callB call_len cf_len bor1 (by rfl) z_len PySem.boot_len (a_cons (d_varb 3) a_nil)))) a_nil)) (v_cons (v_cons v_nil))))
      (b_one (s_set 2 sc__law_paragraphs.nd (d_op op_addAll opf_addAll (d_b (d_op op_addAll opf_addAll (d_varb 2) (d_b (d_callB call_len cf_len bor1 (by rfl) z_len PySem.boot_len (a_cons (d_varb 3) a_nil))))) (d_b d_int))))))
    (b_one (s_retOwn 1))))))
theorem ok__law_words {f : Addr} {fd : FuncData} (F : Fun K "_law_words" "_law_words" s__law_words f fd) (z_range : mg "range" = none) :
    FnOk P w K mg base CX0 1 f fd ["text", "start", "end"] (spD K .new [.bor, .val, .val] F__law_words) :=
  fn_okB (b := B__law_words) F sc__law_words rfl rfl (am_bor (am_val (am_val am_nil))) (fun cdv A outer s H E hr =>
    (b_cons (s_own 3 sc__law_words.nd (d_lst a_nil v_nil))
    (b_cons (s_for PassesOwn.never rfl (i_range2 (by rfl) z_range (a_cons (d_var 1) (a_cons (d_var 2) a_nil))) (g_name 4 sc__law_words.nd)
      (b_one (s_if (t_w (w_and (t_cmp (op_neD hr.units) opf_ne (d_b (d_ix (d_varb 0) (d_varb 4))) (d_b d_str) (nomark _)) (w_and1 (t_w (w_or (t_cmp (op_eqD hr.units) opf_eq (d_varb 4) (d_varb 1) (nomark _)) (w_or1 (t_cmp (op_eqD hr.units) opf_eq (d_b (d_ix (d_varb 0) (d_b (d_op op_sub opf_sub (d_varb 4) (d_b d_int))))) (d_b d_str) (nomark _))))))))
        (b_one (s_app 3 (d_tup (a_cons (d_var 4) (a_cons (d_op op_addAll opf_addAll (d_varb 4) (d_b d_int)) a_nil)) (v_cons (v_cons v_nil)))))
        (b_one (s_if (t_cmp (op_neD hr.units) opf_ne (d_b (d_ix (d_varb 0) (d_varb 4))) (d_b d_str) (nomark _))
          (b_one (s_put 3 (d_tup (a_cons (d_ix (d_b (d_ix (d_varb 3) (d_b (d_un un_neg unf_neg (d_b d_int))))) (d_b d_int)) (a_cons (d_op op_addAll opf_addAll (d_varb 4) (d_b d_int)) a_nil)) (v_cons (v_cons v_nil))) (d_un un_neg unf_neg (d_b d_int))))
          b_nil)))))
    (b_one (s_retOwn 3)))))
theorem ok__law_advance {f : Addr} {fd : FuncData} (F : Fun K "_law_advance" "_law_advance" s__law_advance f fd) :
    FnOk P w K mg base CX0 1 f fd ["char", "scale"] (spD K .val [.bor, .val] F__law_advance) :=
  fn_okB (b := B__law_advance) F sc__law_advance rfl rfl (am_bor (am_val am_nil)) (fun cdv A outer s H E hr =>
    (b_cons (s_if (t_cmp (op_eqD hr.units) opf_eq (d_varb 0) (d_b d_str) (nomark _))
      (b_one (s_ret d_int))
      b_nil)
    (b_cons (s_if (t_cmp (op_inA (units65 hr)) opf_in (d_varb 0) (d_b d_str) (by with_unfolding_all rfl))
      (b_one (s_ret (d_var 1)))
      b_nil)
    (b_cons (s_if (t_cmp (op_inA (units65 hr)) opf_in (d_varb 0) (d_b d_str) (by with_unfolding_all rfl))
      (b_one (s_ret (d_op op_mulAll opf_mulAll (d_b d_int) (d_varb 1))))
      b_nil)
    (b_one (s_ret (d_op op_mulAll opf_mulAll (d_b d_int) (d_varb 1))))))))
theorem ok__law_extent {f : Addr} {fd : FuncData} (F : Fun K "_law_extent" "_law_extent" s__law_extent f fd) (C__law_advance : Fn1 P w K mg base "_law_advance" ["char", "scale"] 1 .val [.bor, .val] F__law_advance) (z_sum : mg "sum" = none) :
    FnOk P w K mg base CX0 2 f fd ["text", "scale"] (spD K .val [.bor, .val] F__law_extent) :=
  fn_okB (b := B__law_extent) F sc__law_extent rfl rfl (am_bor (am_val am_nil)) (fun cdv A outer s H E hr =>
    (b_one (s_ret (d_callB (cr_sum rfl) cf_sum bor1 (by rfl) z_sum PyProof.Rows.boot_sum (a_cons (d_b (d_lc rfl sc__law_extent.nd rfl (i_bor (d_varb 0)) (blkOk_by (N := N__law_extent) (sc := defScope s__law_extent) (own := [("char", 2)]) (by decide +kernel)) (fun _ _ _ _ _ => (gw_name 2 sc__law_extent.nd)) (fun _ _ _ _ _ => ts_nil) (fun _ _ _ _ _ => (d_fn C__law_advance (hr.mono (by decide)) (a_cons (d_varb 2) (a_cons (d_var 1) a_nil)) (am_bor (am_val am_nil)))))) a_nil)))))
theorem ok__law_units {f : Addr} {fd : FuncData} (F : Fun K "_law_units" "_law_units" s__law_units f fd) (C__law_paragraphs : Fn1 P w K mg base "_law_paragraphs" ["text"] 1 .new [.bor] F__law_paragraphs) (C__law_words : Fn1 P w K mg base "_law_words" ["text", "start", "end"] 1 .new [.bor, .val, .val] F__law_words) (C__law_extent : Fn1 P w K mg base "_law_extent" ["text", "scale"] 2 .val [.bor, .val] F__law_extent) (z_len : mg "len" = none) (z_range : mg "range" = none) :
    FnOk P w K mg base CX0 3 f fd ["child", "text", "scale"] (spD K .new [.val, .bor, .val] F__law_units) :=
  fn_okB (b := B__law_units) F sc__law_units rfl rfl (am_val (am_bor (am_val am_nil))) (fun cdv A outer s H E hr =>
    (b_cons (s_own 3 sc__law_units.nd (d_lst a_nil v_nil))
    (b_cons (s_set 4 sc__law_units.nd (d_fz (d_fn C__law_paragraphs (hr.mono (by decide)) (a_cons (d_varb 1) a_nil) (am_bor am_nil))))
    (b_cons (s_for PassesOwn.never rfl (i_range1 (by rfl) z_range (a_cons (d_callB call_len cf_len bor1 (by rfl) z_len PySem.boot_len (a_cons (d_varb 4) a_nil)) a_nil)) (g_name 5 sc__law_units.nd)
      (b_cons (s_if (t_cmp op_gt (opf_cmpI _) (d_varb 5) (d_b d_int) (nomark _))
        (b_one (s_app 3 (d_tup (a_cons d_str (a_cons (d_var 0) (a_cons (d_ix (d_b (d_ix (d_varb 4) (d_b (d_op op_sub opf_sub (d_varb 5) (d_b d_int))))) (d_b d_int)) (a_cons (d_ix (d_b (d_ix (d_varb 4) (d_b (d_op op_sub opf_sub (d_varb 5) (d_b d_int))))) (d_b d_int)) (a_cons d_int (a_cons d_int a_nil)))))) (v_cons (v_cons (v_cons (v_cons (v_cons (v_cons v_nil)))))))))
        b_nil)
      (b_cons (s_set 6 sc__law_units.nd d_non)
      (b_one (s_for PassesOwn.never rfl (i_val (d_fz (d_fn C__law_words (hr.mono (by decide)) (a_cons (d_varb 1) (a_cons (d_ix (d_b (d_ix (d_varb 4) (d_varb 5))) (d_b d_int)) (a_cons (d_ix (d_b (d_ix (d_varb 4) (d_varb 5))) (d_b d_int)) a_nil))) (am_bor (am_val (am_val am_nil)))))) (g_tup rfl (gs_cons (g_name 7 sc__law_units.nd) (gs_cons (g_name 8 sc__law_units.nd) gs_nil)))
        (b_cons (s_set 9 sc__law_units.nd d_int)
        (b_cons (s_if (t_cmp op_notN opf_notN (d_varb 6) (d_b d_non) (nomark _))
          (b_one (s_set 9 sc__law_units.nd (d_fn C__law_extent (hr.mono (by decide)) (a_cons (d_b (d_slice (d_varb 1) (o_so (d_var 6)) (o_so (d_var 7)))) (a_cons (d_var 2) a_nil)) (am_bor (am_val am_nil)))))
          b_nil)
        (b_cons (s_app 3 (d_tup (a_cons d_str (a_cons (d_var 0) (a_cons (d_var 7) (a_cons (d_var 8) (a_cons (d_fn C__law_extent (hr.mono (by decide)) (a_cons (d_b (d_slice (d_varb 1) (o_so (d_var 7)) (o_so (d_var 8)))) (a_cons (d_var 2) a_nil)) (am_bor (am_val am_nil))) (a_cons (d_var 9) a_nil)))))) (v_cons (v_cons (v_cons (v_cons (v_cons (v_cons v_nil))))))))
        (b_one (s_set 6 sc__law_units.nd (d_var 8)))))))))))
    (b_one (s_retOwn 3))))))
theorem ok__law_pieces {f : Addr} {fd : FuncData} (F : Fun K "_law_pieces" "_law_pieces" s__law_pieces f fd) (C__law_extent : Fn1 P w K mg base "_law_extent" ["text", "scale"] 2 .val [.bor, .val] F__law_extent) (z_len : mg "len" = none) :
    FnOk P w K mg base CX0 3 f fd ["items", "texts", "widths", "scales", "gap"] (spD K .new [.bor, .bor, .bor, .bor, .bor] F__law_pieces) :=
  fn_okB (b := B__law_pieces) F sc__law_pieces rfl rfl (am_bor (am_bor (am_bor (am_bor (am_bor am_nil))))) (fun cdv A outer s H E hr =>
    (b_cons (s_own 5 sc__law_pieces.nd (d_lst a_nil v_nil))
    (b_cons (s_for PassesOwn.never rfl (i_par (d_varp 0)) (g_tup rfl (gs_cons (g_name 6 sc__law_pieces.nd) (gs_cons (g_name 7 sc__law_pieces.nd) (gs_cons (g_name 8 sc__law_pieces.nd) gs_nil))))
      (b_cons (s_set 9 sc__law_pieces.nd d_int)
      (b_cons (s_if (t_cmp op_gt (opf_cmpI _) (d_b (d_callB call_len cf_len bor1 (by rfl) z_len PySem.boot_len (a_cons (d_varb 5) a_nil))) (d_b d_int) (nomark _))
        (b_one (s_set 9 sc__law_pieces.nd (d_op op_addAll opf_addAll (d_b (d_op op_addAll opf_addAll (d_b (d_ix (d_b (d_ix (d_varb 5) (d_b (d_un un_neg unf_neg (d_b d_int))))) (d_b d_int))) (d_b (d_ix (d_b (d_ix (d_varb 5) (d_b (d_un un_neg unf_neg (d_b d_int))))) (d_b d_int))))) (d_varb 4))))
        b_nil)
      (b_one (s_if (t_w (w_and (t_din hr (d_varb 6) (d_varb 1)) (w_and (t_cmp op_gt (opf_cmpI _) (d_b (d_callB call_len cf_len bor1 (by rfl) z_len PySem.boot_len (a_cons (d_varb 5) a_nil))) (d_b d_int) (nomark _)) (w_and1 (t_cmp (op_eqD hr.units) opf_eq (d_b (d_ix (d_b (d_ix (d_varb 5) (d_b (d_un un_neg unf_neg (d_b d_int))))) (d_b d_int))) (d_varb 6) (nomark _))))))
        (b_cons (s_set 10 sc__law_pieces.nd (d_ix (d_b (d_ix (d_varb 5) (d_b (d_un un_neg unf_neg (d_b d_int))))) (d_b d_int)))
        (b_one (s_put 5 (d_tup (a_cons (d_var 6) (a_cons (d_var 10) (a_cons (d_var 8) (a_cons (d_ix (d_b (d_ix (d_varb 5) (d_b (d_un un_neg unf_neg (d_b d_int))))) (d_b d_int)) (a_cons (d_fn C__law_extent (hr.mono (by decide)) (a_cons (d_b (d_slice (d_b (d_dget hr (d_varb 1) (d_varb 6))) (o_so (d_var 10)) (o_so (d_var 8)))) (a_cons (d_dget hr (d_varb 3) (d_varb 6)) a_nil)) (am_bor (am_val am_nil))) a_nil))))) (v_cons (v_cons (v_cons (v_cons (v_cons v_nil)))))) (d_un un_neg unf_neg (d_b d_int)))))
        (b_one (s_if (t_din hr (d_varb 6) (d_varb 1))
          (b_one (s_app 5 (d_tup (a_cons (d_var 6) (a_cons (d_var 7) (a_cons (d_var 8) (a_cons (d_var 9) (a_cons (d_fn C__law_extent (hr.mono (by decide)) (a_cons (d_b (d_slice (d_b (d_dget hr (d_varb 1) (d_varb 6))) (o_so (d_var 7)) (o_so (d_var 8)))) (a_cons (d_dget hr (d_varb 3) (d_varb 6)) a_nil)) (am_bor (am_val am_nil))) a_nil))))) (v_cons (v_cons (v_cons (v_cons (v_cons v_nil))))))))
          (b_one (s_app 5 (d_tup (a_cons (d_var 6) (a_cons d_int (a_cons d_int (a_cons (d_var 9) (a_cons (d_dget hr (d_varb 2) (d_varb 6)) a_nil))))) (v_cons (v_cons (v_cons (v_cons (v_cons v_nil)))))))))))))))
    (b_one (s_retOwn 5)))))
theorem ok__law_lines {f : Addr} {fd : FuncData} (F : Fun K "_law_lines" "_law_lines" s__law_lines f fd) (C__law_paragraphs : Fn1 P w K mg base "_law_paragraphs" ["text"] 1 .new [.bor] F__law_paragraphs) (C__law_words : Fn1 P w K mg base "_law_words" ["text", "start", "end"] 1 .new [.bor, .val, .val] F__law_words) (C__law_pieces : Fn1 P w K mg base "_law_pieces" ["items", "texts", "widths", "scales", "gap"] 3 .new [.bor, .bor, .bor, .bor, .bor] F__law_pieces) (z_len : mg "len" = none) (z_range : mg "range" = none) :
    FnOk P w K mg base CX0 4 f fd ["order", "texts", "widths", "scales", "room", "gap"] (spD K .new [.bor, .bor, .bor, .bor, .bor, .bor] F__law_lines) :=
  fn_okB (b := B__law_lines) F sc__law_lines rfl rfl (am_bor (am_bor (am_bor (am_bor (am_bor (am_bor am_nil)))))) (fun cdv A outer s H E hr =>
    (b_cons (s_own 6 sc__law_lines.nd (d_lst a_nil v_nil))
    (b_cons (s_set 7 sc__law_lines.nd (d_fz (d_lst a_nil v_nil)))
    (b_cons (s_for PassesOwn.never rfl (i_par (d_varp 0)) (g_name 8 sc__law_lines.nd)
      (b_cons (s_set 9 sc__law_lines.nd (d_fz (d_lst (a_cons (d_tup (a_cons d_int (a_cons d_int a_nil)) (v_cons (v_cons v_nil))) a_nil) (v_cons v_nil))))
      (b_cons (s_if (t_din hr (d_varb 8) (d_varb 1))
        (b_one (s_set 9 sc__law_lines.nd (d_fz (d_fn C__law_paragraphs (hr.mono (by decide)) (a_cons (d_b (d_dget hr (d_varb 1) (d_varb 8))) a_nil) (am_bor am_nil)))))
        b_nil)
      (b_one (s_for PassesOwn.never rfl (i_range1 (by rfl) z_range (a_cons (d_callB call_len cf_len bor1 (by rfl) z_len PySem.boot_len (a_cons (d_varb 9) a_nil)) a_nil)) (g_name 10 sc__law_lines.nd)
        (b_cons (s_if (t_w (w_and (t_cmp op_gt (opf_cmpI _) (d_varb 10) (d_b d_int) (nomark _)) (w_and1 (t_cmp (op_eqD hr.units) opf_eq (d_b (d_callB call_len cf_len bor1 (by rfl) z_len PySem.boot_len (a_cons (d_varb 7) a_nil))) (d_b d_int) (nomark _)))))
          (b_one (s_app 6 (d_fz (d_lst (a_cons (d_tup (a_cons (d_var 8) (a_cons (d_ix (d_b (d_ix (d_varb 9) (d_b (d_op op_sub opf_sub (d_varb 10) (d_b d_int))))) (d_b d_int)) (a_cons (d_ix (d_b (d_ix (d_varb 9) (d_b (d_op op_sub opf_sub (d_varb 10) (d_b d_int))))) (d_b d_int)) a_nil))) (v_cons (v_cons (v_cons v_nil)))) a_nil) (v_cons v_nil)))))
          (b_one (s_if (t_cmp op_gt (opf_cmpI _) (d_varb 10) (d_b d_int) (nomark _))
            (b_cons (s_app 6 (d_var 7))
            (b_one (s_set 7 sc__law_lines.nd (d_fz (d_lst a_nil v_nil)))))
            b_nil)))
        (b_cons (s_set 11 sc__law_lines.nd (d_fz (d_lst (a_cons (d_tup (a_cons d_int (a_cons d_int a_nil)) (v_cons (v_cons v_nil))) a_nil) (v_cons v_nil))))
        (b_cons (s_if (t_din hr (d_varb 8) (d_varb 1))
          (b_one (s_set 11 sc__law_lines.nd (d_fz (d_fn C__law_words (hr.mono (by decide)) (a_cons (d_b (d_dget hr (d_varb 1) (d_varb 8))) (a_cons (d_ix (d_b (d_ix (d_varb 9) (d_varb 10))) (d_b d_int)) (a_cons (d_ix (d_b (d_ix (d_varb 9) (d_varb 10))) (d_b d_int)) a_nil))) (am_bor (am_val (am_val am_nil)))))))
          b_nil)
        (b_one (s_for PassesOwn.never rfl (i_val (d_var 11)) (g_tup rfl (gs_cons (g_name 12 sc__law_lines.nd) (gs_cons (g_name 13 sc__law_lines.nd) gs_nil)))
          (b_cons (s_set 14 sc__law_lines.nd (d_ix (d_b (d_fn C__law_pieces (hr.mono (by decide)) (a_cons (d_b (d_op op_lstCat (opf_cat (.inr rfl)) (d_varb 7) (d_b (d_lst (a_cons (d_tup (a_cons (d_var 8) (a_cons (d_var 12) (a_cons (d_var 13) a_nil))) (v_cons (v_cons (v_cons v_nil)))) a_nil) (v_cons v_nil))))) (a_cons (d_varb 1) (a_cons (d_varb 2) (a_cons (d_varb 3) (a_cons (d_varb 5) a_nil))))) (am_bor (am_bor (am_bor (am_bor (am_bor am_nil))))))) (d_b (d_un un_neg unf_neg (d_b d_int)))))
          (b_cons (s_if (t_w (w_and (t_cmp op_gt (opf_cmpI _) (d_b (d_callB call_len cf_len bor1 (by rfl) z_len PySem.boot_len (a_cons (d_varb 7) a_nil))) (d_b d_int) (nomark _)) (w_and (t_cmp op_notN opf_notN (d_varb 4) (d_b d_non) (nomark _)) (w_and1 (t_cmp op_gt (opf_cmpI _) (d_b (d_op op_addAll opf_addAll (d_b (d_ix (d_varb 14) (d_b d_int))) (d_b (d_ix (d_varb 14) (d_b d_int))))) (d_varb 4) (nomark _))))))
            (b_cons (s_app 6 (d_var 7))
            (b_one (s_set 7 sc__law_lines.nd (d_fz (d_lst a_nil v_nil)))))
            b_nil)
          (b_one (s_set 7 sc__law_lines.nd (d_fz (d_op op_lstCat (opf_cat (.inr rfl)) (d_varb 7) (d_b (d_lst (a_cons (d_tup (a_cons (d_var 8) (a_cons (d_var 12) (a_cons (d_var 13) a_nil))) (v_cons (v_cons (v_cons v_nil)))) a_nil) (v_cons v_nil)))))))))))))))))))
    (b_cons (s_if (t_cmp op_gt (opf_cmpI _) (d_b (d_callB call_len cf_len bor1 (by rfl) z_len PySem.boot_len (a_cons (d_varb 7) a_nil))) (d_b d_int) (nomark _))
      (b_one (s_app 6 (d_var 7)))
      b_nil)
    (b_one (s_ret (d_lc rfl sc__law_lines.nd rfl (i_bor (d_varb 6)) (blkOk_by (N := N__law_lines) (sc := defScope s__law_lines) (own := [("row", 15)]) (by decide +kernel)) (fun _ _ _ _ _ => (gw_name 15 sc__law_lines.nd)) (fun _ _ _ _ _ => ts_nil) (fun _ _ _ _ _ => (d_fz (d_fn C__law_pieces (hr.mono (by decide)) (a_cons (d_varb 15) (a_cons (d_varb 1) (a_cons (d_varb 2) (a_cons (d_varb 3) (a_cons (d_varb 5) a_nil))))) (am_bor (am_bor (am_bor (am_bor (am_bor am_nil))))))))))))))))
theorem ok_line_width {f : Addr} {fd : FuncData} (F : Fun K "line_width" "line_width" s_line_width f fd) :
    FnOk P w K mg base CX0 1 f fd ["line"] (spD K .val [.bor] F_line_width) :=
  fn_okB (b := B_line_width) F sc_line_width rfl rfl (am_bor am_nil) (fun cdv A outer s H E hr =>
    (b_cons (s_if (t_not (t_val (d_varb 0)))
      (b_one (s_ret d_int))
      b_nil)
    (b_one (s_ret (d_op op_addAll opf_addAll (d_b (d_ix (d_b (d_ix (d_varb 0) (d_b (d_un un_neg unf_neg (d_b d_int))))) (d_b d_int))) (d_b (d_ix (d_b (d_ix (d_varb 0) (d_b (d_un un_neg unf_neg (d_b d_int))))) (d_b d_int))))))))
theorem ok_set_lines {f : Addr} {fd : FuncData} (F : Fun K "set_lines" "set_lines" s_set_lines f fd) (C_line_width : Fn1 P w K mg base "line_width" ["line"] 1 .val [.bor] F_line_width) (z_len : mg "len" = none) :
    FnOk P w K mg base CX0 2 f fd ["units", "room", "gap"] (spW K cl .any [(.md .bor), (.md .bor), (.md .val)] F_set_lines) :=
  fn_okWB (b := B_set_lines) F sc_set_lines rfl rfl (fun cdv A outer s H E hr =>
    (mb_cons (ms_any 3 sc_set_lines.nd (q_r (r_mk (m_l (d_lst a_nil v_nil)))))
    (mb_cons (ms_any 4 sc_set_lines.nd (q_r (r_mk (m_l (d_lst a_nil v_nil)))))
    (mb_cons (ms_for PassesOwn.never rfl (im_par 0) (g_tup rfl (gs_cons (g_name 5 sc_set_lines.nd) (gs_cons (g_name 6 sc_set_lines.nd) (gs_cons (g_name 7 sc_set_lines.nd) (gs_cons (g_name 8 sc_set_lines.nd) (gs_cons (g_name 9 sc_set_lines.nd) (gs_cons (g_name 10 sc_set_lines.nd) gs_nil)))))))
      (mb_cons (ms_if (mt_l (t_cmp (op_eqD hr.units) opf_eq (d_varb 5) (d_b d_str) (nomark _)))
        (mb_cons (ms_exprQ (q_app (r_q (q_var 3)) (q_orL (r_q (q_var 4)) (q_one (q_r (r_mk (m_l (d_lst (a_cons (d_tup (a_cons (d_var 6) (a_cons (d_var 7) (a_cons (d_var 8) (a_cons d_int (a_cons d_int a_nil))))) (v_cons (v_cons (v_cons (v_cons (v_cons v_nil)))))) a_nil) (v_cons v_nil)))))))))
        (mb_cons (ms_any 4 sc_set_lines.nd (q_r (r_mk (m_l (d_lst a_nil v_nil)))))
        (mb_one (ms_l s_continue))))
        mb_nil)
      (mb_cons (ms_set 11 sc_set_lines.nd (m_and (m_l (d_cmp (op_eqD hr.units) opf_eq (d_varb 5) (d_b d_str) (nomark _))) (m_and (m_cmpB op_gt (opf_cmpI _) (mb_v (m_lenL (r_q (q_var 4)) z_len)) (mb_v (m_l d_int)) (nomark _)) (m_one (m_cmpB (op_eqD hr.units) opf_eq (mb_v (m_ixB (mb_v (m_q (q_ix (r_q (q_var 4)) (m_l (d_un un_neg unf_neg (d_b d_int)))))) (mb_v (m_l d_int)))) (mb_var 6) (nomark _))))))
      (mb_cons (ms_set 12 sc_set_lines.nd (m_opB op_addAll opf_addAll (mb_v (m_pfnB C_line_width (hr.mono (by decide)) (ma_q (q_var 4) ma_nil))) (mb_v (m_l (d_if (t_val (d_varb 11)) (d_var 10) (d_var 2))))))
      (mb_cons (ms_if (mt_w (mw_and (mt_trL (r_q (q_var 4))) (mw_and (mt_l (t_cmp op_notN opf_notN (d_varb 1) (d_b d_non) (nomark _))) (mw_and1 (mt_l (t_cmp op_gt (opf_cmpI _) (d_b (d_op op_addAll opf_addAll (d_varb 12) (d_varb 9))) (d_varb 1) (nomark _)))))))
        (mb_cons (ms_exprQ (q_app (r_q (q_var 3)) (q_var 4)))
        (mb_one (ms_any 4 sc_set_lines.nd (q_r (r_mk (m_l (d_lst a_nil v_nil)))))))
        mb_nil)
      (mb_one (ms_if (mt_not (mt_trL (r_q (q_var 4))))
        (mb_one (ms_exprQ (q_app (r_q (q_var 4)) (q_m (m_l (d_tup (a_cons (d_var 6) (a_cons (d_var 7) (a_cons (d_var 8) (a_cons d_int (a_cons (d_var 9) a_nil))))) (v_cons (v_cons (v_cons (v_cons (v_cons v_nil)))))))))))
        (mb_one (ms_if (mt_l (t_val (d_varb 11)))
          (mb_cons (ms_set 13 sc_set_lines.nd (m_q (q_ix (r_q (q_var 4)) (m_l (d_un un_neg unf_neg (d_b d_int))))))
          (mb_one (ms_putI (q_m (m_l (d_tup (a_cons (d_var 6) (a_cons (d_ix (d_varb 13) (d_b d_int)) (a_cons (d_var 8) (a_cons (d_ix (d_varb 13) (d_b d_int)) (a_cons (d_op op_sub opf_sub (d_b (d_op op_addAll opf_addAll (d_varb 12) (d_varb 9))) (d_b (d_ix (d_varb 13) (d_b d_int)))) a_nil))))) (v_cons (v_cons (v_cons (v_cons (v_cons v_nil)))))))) (r_q (q_var 4)) (m_l (d_un un_neg unf_neg (d_b d_int))))))
          (mb_one (ms_exprQ (q_app (r_q (q_var 4)) (q_m (m_l (d_tup (a_cons (d_var 6) (a_cons (d_var 7) (a_cons (d_var 8) (a_cons (d_var 12) (a_cons (d_var 9) a_nil))))) (v_cons (v_cons (v_cons (v_cons (v_cons v_nil))))))))))))))))))))
    (mb_cons (ms_if (mt_trL (r_q (q_var 4)))
      (mb_one (ms_exprQ (q_app (r_q (q_var 3)) (q_var 4))))
      mb_nil)
    (mb_one (ms_retQ (q_var 3))))))))
theorem ok_place_pieces {f : Addr} {fd : FuncData} (F : Fun K "place_pieces" "place_pieces" s_place_pieces f fd) (C_line_width : Fn1 P w K mg base "line_width" ["line"] 1 .val [.bor] F_line_width) (z_max : mg "max" = none) :
    FnOk P w K mg base CX0 2 f fd ["lines", "heights", "room", "align"] (spW K cl (.md .val) [.q, (.md .bor), (.md .bor), (.md .bor)] F_place_pieces) :=
  fn_okWB (b := B_place_pieces) F sc_place_pieces rfl rfl (fun cdv A outer s H E hr =>
    (mb_cons (ms_l (s_own 4 sc_place_pieces.nd (d_lst a_nil v_nil)))
    (mb_cons (ms_l (s_set 5 sc_place_pieces.nd d_int))
    (mb_cons (ms_l (s_set 6 sc_place_pieces.nd d_int))
    (mb_cons (ms_forL PassesOwn.never rfl (r_q (q_var 0)) (dgv_name 7 sc_place_pieces.nd)
      (mb_cons (ms_set 8 sc_place_pieces.nd (m_callB (call_max2 rfl) cf_max2 (av_cons (av_cons av_nil)) (by rfl) z_max PyProof.Rows.boot_max (ma_val (m_l d_int) (ma_val (m_opB op_sub opf_sub (mb_var 2) (mb_v (m_pfnB C_line_width (hr.mono (by decide)) (ma_q (q_var 7) ma_nil)))) ma_nil))))
      (mb_cons (ms_l (s_set 9 sc_place_pieces.nd d_int))
      (mb_cons (ms_if (mt_l (t_cmp (op_eqD hr.units) opf_eq (d_varb 3) (d_b d_str) (nomark _)))
        (mb_one (ms_l (s_set 9 sc_place_pieces.nd (d_var 8))))
        (mb_one (ms_if (mt_l (t_cmp (op_eqD hr.units) opf_eq (d_varb 3) (d_b d_str) (nomark _)))
          (mb_one (ms_l (s_set 9 sc_place_pieces.nd (d_op op_fdivW opf_fdiv (d_varb 8) (d_b d_int)))))
          mb_nil)))
      (mb_cons (ms_set 10 sc_place_pieces.nd (m_callB (cr_max rfl) cf_maxL (av_cons av_nil) (by rfl) z_max PyProof.Rows.boot_max (ma_val (m_fz (m_lcL rfl sc_place_pieces.nd rfl (r_q (q_var 7)) (blkOk_by (N := N_place_pieces) (sc := defScope s_place_pieces) (own := [("piece", 17)]) (by decide +kernel)) (fun _ _ _ _ _ => (dgvw_d (gw_name 17 sc_place_pieces.nd))) (fun _ _ _ _ _ => (mts_l ts_nil)) (fun _ _ _ _ _ => (m_l (d_dget hr (d_varb 1) (d_b (d_ix (d_varb 17) (d_b d_int)))))))) ma_nil)))
      (mb_cons (ms_forL PassesOwn.never rfl (r_q (q_var 7)) (dgv_d (g_tup rfl (gs_cons (g_name 11 sc_place_pieces.nd) (gs_cons (g_name 12 sc_place_pieces.nd) (gs_cons (g_name 13 sc_place_pieces.nd) (gs_cons (g_name 14 sc_place_pieces.nd) (gs_cons (g_name 15 sc_place_pieces.nd) gs_nil)))))))
        (mb_cons (ms_l (s_set 16 sc_place_pieces.nd (d_dget hr (d_varb 1) (d_varb 11))))
        (mb_one (ms_l (s_app 4 (d_tup (a_cons (d_var 11) (a_cons (d_var 12) (a_cons (d_var 13) (a_cons (d_op op_addAll opf_addAll (d_varb 14) (d_varb 9)) (a_cons (d_op op_sub opf_sub (d_b (d_op op_addAll opf_addAll (d_varb 5) (d_varb 10))) (d_varb 16)) (a_cons (d_var 15) (a_cons (d_var 16) a_nil))))))) (v_cons (v_cons (v_cons (v_cons (v_cons (v_cons (v_cons v_nil)))))))))))))
      (mb_cons (ms_l (s_augAdd 5 sc_place_pieces.nd (d_var 10)))
      (mb_one (ms_set 6 sc_place_pieces.nd (m_callB (call_max2 rfl) cf_max2 (av_cons (av_cons av_nil)) (by rfl) z_max PyProof.Rows.boot_max (ma_val (m_l (d_var 6)) (ma_val (m_pfnB C_line_width (hr.mono (by decide)) (ma_q (q_var 7) ma_nil)) ma_nil))))))))))))
    (mb_one (ms_fz 4 (ms_ret (m_l (d_tup (a_cons (d_var 6) (a_cons (d_var 5) (a_cons (d_var 4) a_nil))) (v_cons (v_cons (v_cons v_nil)))))))))))))
theorem ok__law_placed {f : Addr} {fd : FuncData} (F : Fun K "_law_placed" "_law_placed" s__law_placed f fd) (z_max : mg "max" = none) :
    FnOk P w K mg base CX0 1 f fd ["lines", "heights", "room", "align"] (spD K .val [.bor, .bor, .bor, .bor] F__law_placed) :=
  fn_okB (b := B__law_placed) F sc__law_placed rfl rfl (am_bor (am_bor (am_bor (am_bor am_nil)))) (fun cdv A outer s H E hr =>
    (b_cons (s_own 4 sc__law_placed.nd (d_lst a_nil v_nil))
    (b_cons (s_set 5 sc__law_placed.nd d_int)
    (b_cons (s_set 6 sc__law_placed.nd d_int)
    (b_cons (s_for PassesOwn.never rfl (i_par (d_varp 0)) (g_name 7 sc__law_placed.nd)
      (b_cons (s_set 8 sc__law_placed.nd (d_op op_addAll opf_addAll (d_b (d_ix (d_b (d_ix (d_varb 7) (d_b (d_un un_neg unf_neg (d_b d_int))))) (d_b d_int))) (d_b (d_ix (d_b (d_ix (d_varb 7) (d_b (d_un un_neg unf_neg (d_b d_int))))) (d_b d_int)))))
      (b_cons (s_set 9 sc__law_placed.nd (d_callB (cr_max rfl) cf_maxL bor1 (by rfl) z_max PyProof.Rows.boot_max (a_cons (d_b (d_lc rfl sc__law_placed.nd rfl (i_bor (d_varb 7)) (blkOk_by (N := N__law_placed) (sc := defScope s__law_placed) (own := [("piece", 17)]) (by decide +kernel)) (fun _ _ _ _ _ => (gw_name 17 sc__law_placed.nd)) (fun _ _ _ _ _ => ts_nil) (fun _ _ _ _ _ => (d_dget hr (d_varb 1) (d_b (d_ix (d_varb 17) (d_b d_int))))))) a_nil)))
      (b_cons (s_set 10 sc__law_placed.nd (d_callB (call_max2 rfl) cf_max2 bor2 (by rfl) z_max PyProof.Rows.boot_max (a_cons (d_b d_int) (a_cons (d_b (d_op op_sub opf_sub (d_varb 2) (d_varb 8))) a_nil))))
      (b_cons (s_set 11 sc__law_placed.nd (d_dget2 hr (d_b (d_dsp (dp_cons d_str (d_var 10) (dp_cons d_str (d_op op_fdivW opf_fdiv (d_varb 10) (d_b d_int)) dp_nil)))) (d_varb 3) d_int))
      (b_cons (s_for PassesOwn.never rfl (i_val (d_var 7)) (g_tup rfl (gs_cons (g_name 12 sc__law_placed.nd) (gs_cons (g_name 13 sc__law_placed.nd) (gs_cons (g_name 14 sc__law_placed.nd) (gs_cons (g_name 15 sc__law_placed.nd) (gs_cons (g_name 16 sc__law_placed.nd) gs_nil))))))
        (b_one (s_app 4 (d_tup (a_cons (d_var 12) (a_cons (d_var 13) (a_cons (d_var 14) (a_cons (d_op op_addAll opf_addAll (d_varb 15) (d_varb 11)) (a_cons (d_op op_sub opf_sub (d_b (d_op op_addAll opf_addAll (d_varb 5) (d_varb 9))) (d_b (d_dget hr (d_varb 1) (d_varb 12)))) (a_cons (d_var 16) (a_cons (d_dget hr (d_varb 1) (d_varb 12)) a_nil))))))) (v_cons (v_cons (v_cons (v_cons (v_cons (v_cons (v_cons v_nil)))))))))))
      (b_cons (s_set 5 sc__law_placed.nd (d_op op_addAll opf_addAll (d_varb 5) (d_varb 9)))
      (b_one (s_set 6 sc__law_placed.nd (d_callB (call_max2 rfl) cf_max2 bor2 (by rfl) z_max PyProof.Rows.boot_max (a_cons (d_varb 6) (a_cons (d_varb 8) a_nil))))))))))))
    (b_one (s_fz 4 (s_ret (d_tup (a_cons (d_var 6) (a_cons (d_var 5) (a_cons (d_var 4) a_nil))) (v_cons (v_cons (v_cons v_nil))))))))))))
theorem ok__law_is_integer {f : Addr} {fd : FuncData} (F : Fun K "_law_is_integer" "_law_is_integer" s__law_is_integer f fd) (z_bool : mg "bool" = none) (z_int : mg "int" = none) (z_isinstance : mg "isinstance" = none) :
    FnOk P w K mg base CX0 1 f fd ["value"] (spD K .val [.bor] F__law_is_integer) :=
  fn_okB (b := B__law_is_integer) F sc__law_is_integer rfl rfl (am_bor am_nil) (fun cdv A outer s H E hr =>
    (b_one (s_ret (d_and (d_isi (by rfl) z_isinstance (d_varb 0) (by rfl) z_int PyProof.Rows.boot_int okT_int (by decide +kernel)) (d_one (d_not (d_b (d_isi (by rfl) z_isinstance (d_varb 0) (by rfl) z_bool (by decide +kernel) okT_bool (by decide +kernel)))))))))
theorem ok_law {f : Addr} {fd : FuncData} (F : Fun K "law" "law" s_law f fd) (C__law_next : Fn1W P w K mg base cl "_law_next" ["state", "many"] 1 (.md .val) [.q, (.md .bor)] F__law_next) (C__law_string : Fn1W P w K mg base cl "_law_string" ["state"] 3 (.md .val) [.q] F__law_string) (C_text_units : Fn1 P w K mg base "text_units" ["child", "string", "size"] 4 .new [.val, .bor, .bor] F_text_units) (C__law_units : Fn1 P w K mg base "_law_units" ["child", "text", "scale"] 3 .new [.val, .bor, .val] F__law_units) (C__law_lines : Fn1 P w K mg base "_law_lines" ["order", "texts", "widths", "scales", "room", "gap"] 4 .new [.bor, .bor, .bor, .bor, .bor, .bor] F__law_lines) (C_set_lines : Fn1W P w K mg base cl "set_lines" ["units", "room", "gap"] 2 .any [(.md .bor), (.md .bor), (.md .val)] F_set_lines) (C_line_width : Fn1 P w K mg base "line_width" ["line"] 1 .val [.bor] F_line_width) (C_place_pieces : Fn1W P w K mg base cl "place_pieces" ["lines", "heights", "room", "align"] 2 (.md .val) [.q, (.md .bor), (.md .bor), (.md .bor)] F_place_pieces) (C__law_placed : Fn1 P w K mg base "_law_placed" ["lines", "heights", "room", "align"] 1 .val [.bor, .bor, .bor, .bor] F__law_placed) (C__law_is_integer : Fn1 P w K mg base "_law_is_integer" ["value"] 1 .val [.bor] F__law_is_integer) (z_dict : mg "dict" = none) (z_isinstance : mg "isinstance" = none) (z_len : mg "len" = none) (z_list : mg "list" = none) (z_max : mg "max" = none) (z_range : mg "range" = none) :
    FnOk P w K mg base CX0 5 f fd ["script"] (spD K .val [.scr] F_law) :=
  outD_okB (cl := cl) (b := B_law) F sc_law rfl rfl rfl (am_scr am_nil) (fun cdv A outer s H E hr =>
    (mb_cons (ms_any 1 sc_law.nd (q_r (r_list (ma_q (q_r (r_mk (m_l (d_listS (d_vars 0) z_list)))) (ma_q (q_m (m_l d_int)) (ma_q (q_m (m_l d_int)) ma_nil))) (aq_cons (aq_cons (aq_cons aq_nil))))))
    (mb_cons (ms_set 2 sc_law.nd (m_fz (m_slW (op_b (mb_v (m_l (d_fz (d_lst (a_cons d_int (a_cons d_int (a_cons d_int (a_cons d_int (a_cons d_int (a_cons d_int a_nil)))))) (v_cons (v_cons (v_cons (v_cons (v_cons (v_cons v_nil))))))))))) (mo_l o_no) (mo_so (m_fn C__law_next (hr.mono (by decide)) (ma_q (q_var 1) (ma_valb (m_l d_int) ma_nil)))))))
    (mb_cons (ms_l (s_own 3 sc_law.nd d_dnewK))
    (mb_cons (ms_l (s_own 4 sc_law.nd d_dnewK))
    (mb_cons (ms_l (s_own 5 sc_law.nd d_dnewK))
    (mb_cons (ms_l (s_own 6 sc_law.nd d_dnewK))
    (mb_cons (ms_l (s_own 7 sc_law.nd (d_lst a_nil v_nil)))
    (mb_cons (ms_for PassesOwn.never rfl (im_val (m_l (d_var 2))) (g_name 8 sc_law.nd)
      (mb_cons (ms_dputO 6 hr (m_fn C__law_next (hr.mono (by decide)) (ma_q (q_var 1) (ma_valb (m_l d_int) ma_nil))) (m_l (d_var 8)))
      (mb_one (ms_if (mt_cmpB op_gt (opf_cmpI _) (mb_v (m_fn C__law_next (hr.mono (by decide)) (ma_q (q_var 1) (ma_valb (m_l d_int) ma_nil)))) (mb_v (m_l d_int)) (nomark _))
        (mb_cons (ms_dputO 3 hr (m_fn C__law_string (hr.mono (by decide)) (ma_q (q_var 1) ma_nil)) (m_l (d_var 8)))
        (mb_cons (ms_dputO 5 hr (m_opB op_addAll opf_addAll (mb_v (m_l d_int)) (mb_v (m_fn C__law_next (hr.mono (by decide)) (ma_q (q_var 1) (ma_valb (m_ixB (mb_v (m_l (d_fz (d_lst (a_cons d_int (a_cons d_int a_nil)) (v_cons (v_cons v_nil)))))) (mb_v (m_fn C__law_next (hr.mono (by decide)) (ma_q (q_var 1) (ma_valb (m_l d_int) ma_nil))))) ma_nil))))) (m_l (d_var 8)))
        (mb_cons (ms_l (s_dput 6 hr (d_callB (call_max2 rfl) cf_max2 bor2 (by rfl) z_max PyProof.Rows.boot_max (a_cons (d_b d_int) (a_cons (d_b (d_dget hr (d_varb 6) (d_varb 8))) a_nil))) (d_varb 8)))
        (mb_cons (ms_l (s_own 9 sc_law.nd (d_fn C_text_units (hr.mono (by decide)) (a_cons (d_var 8) (a_cons (d_b (d_dget hr (d_varb 3) (d_varb 8))) (a_cons (d_b (d_dget hr (d_varb 5) (d_varb 8))) a_nil))) (am_val (am_bor (am_bor am_nil))))))
        (mb_cons (ms_if (mt_l (t_w (w_or (t_not (t_val (d_b (d_isi (by rfl) z_isinstance (d_varb 9) (by rfl) z_list PyProof.Rows.boot_list okT_list (by decide +kernel))))) (w_or1 (t_cmp (op_neD hr.units) opf_ne (d_varb 9) (d_b (d_fn C__law_units (hr.mono (by decide)) (a_cons (d_var 8) (a_cons (d_b (d_dget hr (d_varb 3) (d_varb 8))) (a_cons (d_dget hr (d_varb 5) (d_varb 8)) a_nil))) (am_val (am_bor (am_val am_nil))))) (nomark _))))))
          (mb_one (ms_ret (m_l d_bl)))
          mb_nil)
        (mb_one (ms_l (s_extO 7 9))))))))
        (mb_cons (ms_dputO 4 hr (m_ixB (mb_v (m_fz (m_lst (ma_val (m_l d_int) (ma_val (m_fn C__law_next (hr.mono (by decide)) (ma_q (q_var 1) (ma_valb (m_l d_int) ma_nil))) (ma_val (m_fn C__law_next (hr.mono (by decide)) (ma_q (q_var 1) (ma_valb (m_l d_int) ma_nil))) ma_nil))) (av_cons (av_cons (av_cons av_nil)))))) (mb_v (m_fn C__law_next (hr.mono (by decide)) (ma_q (q_var 1) (ma_valb (m_l d_int) ma_nil))))) (m_l (d_var 8)))
        (mb_one (ms_l (s_app 7 (d_tup (a_cons d_str (a_cons (d_var 8) (a_cons d_int (a_cons d_int (a_cons (d_dget hr (d_varb 4) (d_varb 8)) (a_cons d_int a_nil)))))) (v_cons (v_cons (v_cons (v_cons (v_cons (v_cons v_nil)))))))))))))))
    (mb_cons (ms_set 10 sc_law.nd (m_fn C__law_next (hr.mono (by decide)) (ma_q (q_var 1) (ma_valb (m_ixB (mb_v (m_l (d_fz (d_lst (a_cons d_int (a_cons d_int a_nil)) (v_cons (v_cons v_nil)))))) (mb_v (m_fn C__law_next (hr.mono (by decide)) (ma_q (q_var 1) (ma_valb (m_l d_int) ma_nil))))) ma_nil))))
    (mb_cons (ms_for PassesOwn.never rfl (im_range1 (by rfl) z_range (ma_val (m_l d_int) ma_nil)) (g_name 11 sc_law.nd)
      (mb_cons (ms_set 12 sc_law.nd (m_ixB (mb_v (m_fz (m_lst (ma_val (m_l d_non) (ma_val (m_l d_int) (ma_val (m_fn C__law_next (hr.mono (by decide)) (ma_q (q_var 1) (ma_valb (m_l d_int) ma_nil))) (ma_val (m_fn C__law_next (hr.mono (by decide)) (ma_q (q_var 1) (ma_valb (m_l d_int) ma_nil))) (ma_val (m_fn C__law_next (hr.mono (by decide)) (ma_q (q_var 1) (ma_valb (m_l d_int) ma_nil))) ma_nil))))) (av_cons (av_cons (av_cons (av_cons (av_cons av_nil)))))))) (mb_v (m_fn C__law_next (hr.mono (by decide)) (ma_q (q_var 1) (ma_valb (m_l d_int) ma_nil))))))
      (mb_cons (ms_l (s_set 13 sc_law.nd (d_fz (d_fn C__law_lines (hr.mono (by decide)) (a_cons (d_varb 2) (a_cons (d_varb 3) (a_cons (d_varb 4) (a_cons (d_varb 5) (a_cons (d_varb 12) (a_cons (d_varb 10) a_nil)))))) (am_bor (am_bor (am_bor (am_bor (am_bor (am_bor am_nil))))))))))
      (mb_cons (ms_l (s_set 14 sc_law.nd (d_fz (d_callTy call_list_of cf_list bor1 (by rfl) z_list PyProof.Rows.boot_list (a_cons (d_varb 7) a_nil)))))
      (mb_cons (ms_any 15 sc_law.nd (q_fn C_set_lines (hr.mono (by decide)) (ma_bor 14 (ma_bor 12 (ma_val (m_l (d_var 10)) ma_nil)))))
      (mb_cons (ms_if (mt_w (mw_or (mt_not (mt_val (m_isiL (by rfl) z_isinstance (r_q (q_var 15)) (by rfl) z_list PyProof.Rows.boot_list okT_list))) (mw_or (mt_neN hr (q_var 15) (mb_var 13)) (mw_or1 (mt_l (t_cmp (op_neD hr.units) opf_ne (d_varb 14) (d_varb 7) (nomark _)))))))
        (mb_one (ms_ret (m_l d_bl)))
        mb_nil)
      (mb_cons (ms_if (mt_w (mw_or (mt_cmpB (op_neD hr.units) opf_ne (mb_v (m_fz (m_lcL rfl sc_law.nd rfl (r_q (q_var 15)) (blkOk_by (N := N_law) (sc := defScope s_law) (own := [("line", 18)]) (by decide +kernel)) (fun _ _ _ _ _ => (dgvw_name 18 sc_law.nd)) (fun _ _ _ _ _ => (mts_l ts_nil)) (fun _ _ _ _ _ => (m_pfnB C_line_width (hr.mono (by decide)) (ma_q (q_var 18) ma_nil)))))) (mb_v (m_l (d_fz (d_lc rfl sc_law.nd rfl (i_bor (d_varb 13)) (blkOk_by (N := N_law) (sc := defScope s_law) (own := [("line", 18)]) (by decide +kernel)) (fun _ _ _ _ _ => (gw_name 18 sc_law.nd)) (fun _ _ _ _ _ => ts_nil) (fun _ _ _ _ _ => (d_op op_addAll opf_addAll (d_b (d_ix (d_b (d_ix (d_varb 18) (d_b (d_un un_neg unf_neg (d_b d_int))))) (d_b d_int))) (d_b (d_ix (d_b (d_ix (d_varb 18) (d_b (d_un un_neg unf_neg (d_b d_int))))) (d_b d_int))))))))) (nomark _)) (mw_or1 (mt_l (t_cmp (op_neD hr.units) opf_ne (d_b (d_fn C_line_width (hr.mono (by decide)) (a_cons (d_b (d_lst a_nil v_nil)) a_nil) (am_bor am_nil))) (d_b d_int) (nomark _))))))
        (mb_one (ms_ret (m_l d_bl)))
        mb_nil)
      (mb_cons (ms_set 16 sc_law.nd (m_ixB (mb_v (m_l (d_fz (d_lst (a_cons d_str (a_cons d_str (a_cons d_str (a_cons d_str a_nil)))) (v_cons (v_cons (v_cons (v_cons v_nil)))))))) (mb_v (m_fn C__law_next (hr.mono (by decide)) (ma_q (q_var 1) (ma_valb (m_l d_int) ma_nil))))))
      (mb_cons (ms_l (s_set 17 sc_law.nd d_int))
      (mb_cons (ms_if (mt_l (t_cmp op_notN opf_notN (d_varb 12) (d_b d_non) (nomark _)))
        (mb_one (ms_l (s_set 17 sc_law.nd (d_var 12))))
        mb_nil)
      (mb_cons (ms_l (s_own 9 sc_law.nd (d_dcopy (d_varb 6) z_dict)))
      (mb_cons (ms_if (mt_w (mw_or (mt_cmpB (op_neD hr.units) opf_ne (mb_v (m_fn C_place_pieces (hr.mono (by decide)) (ma_q (q_var 15) (ma_bor 9 (ma_bor 17 (ma_bor 16 ma_nil)))))) (mb_v (m_l (d_fn C__law_placed (hr.mono (by decide)) (a_cons (d_varb 13) (a_cons (d_varb 6) (a_cons (d_varb 17) (a_cons (d_varb 16) a_nil)))) (am_bor (am_bor (am_bor (am_bor am_nil))))))) (nomark _)) (mw_or (mt_neN hr (q_var 15) (mb_var 13)) (mw_or1 (mt_l (t_cmp (op_dne (units65 hr)) (opf_deq true) (d_varb 9) (d_varb 6) (nomark _)))))))
        (mb_one (ms_ret (m_l d_bl)))
        mb_nil)
      (mb_cons (ms_if (mt_l (t_not (t_val (d_b (d_fn C__law_is_integer (hr.mono (by decide)) (a_cons (d_b (d_fn C_line_width (hr.mono (by decide)) (a_cons (d_b (d_lst a_nil v_nil)) a_nil) (am_bor am_nil))) a_nil) (am_bor am_nil))))))
        (mb_one (ms_ret (m_l d_bl)))
        mb_nil)
      (mb_cons (ms_if (mt_cmpB op_gt (opf_cmpI _) (mb_v (m_lenL (r_q (q_var 15)) z_len)) (mb_v (m_l d_int)) (nomark _))
        (mb_one (ms_exprQ (q_app (r_q (q_ix (r_q (q_var 15)) (m_l d_int))) (q_m (m_l (d_tup (a_cons d_int (a_cons d_int (a_cons d_int (a_cons d_int (a_cons d_int a_nil))))) (v_cons (v_cons (v_cons (v_cons (v_cons v_nil)))))))))))
        mb_nil)
      (mb_cons (ms_exprQ (q_app (r_q (q_var 15)) (q_r (r_mk (m_l (d_lst a_nil v_nil))))))
      (mb_one (ms_if (mt_neN hr (q_fn C_set_lines (hr.mono (by decide)) (ma_bor 7 (ma_bor 12 (ma_val (m_l (d_var 10)) ma_nil)))) (mb_var 13))
        (mb_one (ms_ret (m_l d_bl)))
        mb_nil)))))))))))))))))
    (mb_one (ms_ret (m_l d_bl))))))))))))))
end
/-! ### what the top has written -/
theorem all_mk {l : PySem.W.OpenLaw} {w : World} {K : PySem.W.Frag} {h : Heap} {mg : Str → Option Value} {fa : Addr} (X : K.In h) (G : h.Ns mainGlobals mg) (hfa : mg "law" = some (.ref fa))
    {f0 : Addr} {od0 an0 : Option Addr} {sl0 : Array (Option Value)} {oc0 kV0 dc0 pm0 cd0 ct0 : Value}
    {f1 : Addr} {od1 an1 : Option Addr} {sl1 : Array (Option Value)} {oc1 kV1 dc1 pm1 cd1 ct1 : Value}
    {f2 : Addr} {od2 an2 : Option Addr} {sl2 : Array (Option Value)} {oc2 kV2 dc2 pm2 cd2 ct2 : Value}
    {f3 : Addr} {od3 an3 : Option Addr} {sl3 : Array (Option Value)} {oc3 kV3 dc3 pm3 cd3 ct3 : Value}
    {f4 : Addr} {od4 an4 : Option Addr} {sl4 : Array (Option Value)} {oc4 kV4 dc4 pm4 cd4 ct4 : Value}
    {f5 : Addr} {od5 an5 : Option Addr} {sl5 : Array (Option Value)} {oc5 kV5 dc5 pm5 cd5 ct5 : Value}
    {f6 : Addr} {od6 an6 : Option Addr} {sl6 : Array (Option Value)} {oc6 kV6 dc6 pm6 cd6 ct6 : Value}
    {f7 : Addr} {od7 an7 : Option Addr} {sl7 : Array (Option Value)} {oc7 kV7 dc7 pm7 cd7 ct7 : Value}
    {f8 : Addr} {od8 an8 : Option Addr} {sl8 : Array (Option Value)} {oc8 kV8 dc8 pm8 cd8 ct8 : Value}
    {f9 : Addr} {od9 an9 : Option Addr} {sl9 : Array (Option Value)} {oc9 kV9 dc9 pm9 cd9 ct9 : Value}
    {f10 : Addr} {od10 an10 : Option Addr} {sl10 : Array (Option Value)} {oc10 kV10 dc10 pm10 cd10 ct10 : Value}
    {f11 : Addr} {od11 an11 : Option Addr} {sl11 : Array (Option Value)} {oc11 kV11 dc11 pm11 cd11 ct11 : Value}
    {f12 : Addr} {od12 an12 : Option Addr} {sl12 : Array (Option Value)} {oc12 kV12 dc12 pm12 cd12 ct12 : Value}
    {f13 : Addr} {od13 an13 : Option Addr} {sl13 : Array (Option Value)} {oc13 kV13 dc13 pm13 cd13 ct13 : Value}
    {f14 : Addr} {od14 an14 : Option Addr} {sl14 : Array (Option Value)} {oc14 kV14 dc14 pm14 cd14 ct14 : Value}
    {f15 : Addr} {od15 an15 : Option Addr} {sl15 : Array (Option Value)} {oc15 kV15 dc15 pm15 cd15 ct15 : Value}
    {f16 : Addr} {od16 an16 : Option Addr} {sl16 : Array (Option Value)} {oc16 kV16 dc16 pm16 cd16 ct16 : Value}
    {f17 : Addr} {od17 an17 : Option Addr} {sl17 : Array (Option Value)} {oc17 kV17 dc17 pm17 cd17 ct17 : Value}
    {f18 : Addr} {od18 an18 : Option Addr} {sl18 : Array (Option Value)} {oc18 kV18 dc18 pm18 cd18 ct18 : Value}
    {f19 : Addr} {od19 an19 : Option Addr} {sl19 : Array (Option Value)} {oc19 kV19 dc19 pm19 cd19 ct19 : Value}
    {f20 : Addr} {od20 an20 : Option Addr} {sl20 : Array (Option Value)} {oc20 kV20 dc20 pm20 cd20 ct20 : Value}
    {f21 : Addr} {od21 an21 : Option Addr} {sl21 : Array (Option Value)} {oc21 kV21 dc21 pm21 cd21 ct21 : Value}
    {t_BROAD : Tok}
    {t_THIN : Tok}
    (a0 : PySem.W.nsIn K mainGlobals "_law_next" = some (some (.ref f0)))
    (l0 : K.lookup f0 = some ⟨oc0, od0, .func (PySem.W.fnOf "_law_next" "_law_next" (defArgs s__law_next) (defBody s__law_next) (defScope s__law_next) .none kV0 dc0 pm0 an0 cd0 ct0), sl0⟩) (c0 : PySem.W.codeIn K cd0 "_law_next" = true) (k0 : PySem.W.keepIn K (.ref f0) = true)
    (a1 : PySem.W.nsIn K mainGlobals "_law_sign" = some (some (.ref f1)))
    (l1 : K.lookup f1 = some ⟨oc1, od1, .func (PySem.W.fnOf "_law_sign" "_law_sign" (defArgs s__law_sign) (defBody s__law_sign) (defScope s__law_sign) .none kV1 dc1 pm1 an1 cd1 ct1), sl1⟩) (c1 : PySem.W.codeIn K cd1 "_law_sign" = true) (k1 : PySem.W.keepIn K (.ref f1) = true)
    (a2 : PySem.W.nsIn K mainGlobals "_law_string" = some (some (.ref f2)))
    (l2 : K.lookup f2 = some ⟨oc2, od2, .func (PySem.W.fnOf "_law_string" "_law_string" (defArgs s__law_string) (defBody s__law_string) (defScope s__law_string) .none kV2 dc2 pm2 an2 cd2 ct2), sl2⟩) (c2 : PySem.W.codeIn K cd2 "_law_string" = true) (k2 : PySem.W.keepIn K (.ref f2) = true)
    (a3 : PySem.W.nsIn K mainGlobals "units" = some (some (.ref f3)))
    (l3 : K.lookup f3 = some ⟨oc3, od3, .func (PySem.W.fnOf "units" "units" (defArgs s_units) (defBody s_units) (defScope s_units) .none kV3 dc3 pm3 an3 cd3 ct3), sl3⟩) (c3 : PySem.W.codeIn K cd3 "units" = true) (k3 : PySem.W.keepIn K (.ref f3) = true)
    (a4 : PySem.W.nsIn K mainGlobals "advance" = some (some (.ref f4)))
    (l4 : K.lookup f4 = some ⟨oc4, od4, .func (PySem.W.fnOf "advance" "advance" (defArgs s_advance) (defBody s_advance) (defScope s_advance) .none kV4 dc4 pm4 an4 cd4 ct4), sl4⟩) (c4 : PySem.W.codeIn K cd4 "advance" = true) (k4 : PySem.W.keepIn K (.ref f4) = true)
    (a5 : PySem.W.nsIn K mainGlobals "offsets" = some (some (.ref f5)))
    (l5 : K.lookup f5 = some ⟨oc5, od5, .func (PySem.W.fnOf "offsets" "offsets" (defArgs s_offsets) (defBody s_offsets) (defScope s_offsets) .none kV5 dc5 pm5 an5 cd5 ct5), sl5⟩) (c5 : PySem.W.codeIn K cd5 "offsets" = true) (k5 : PySem.W.keepIn K (.ref f5) = true)
    (a6 : PySem.W.nsIn K mainGlobals "paragraphs" = some (some (.ref f6)))
    (l6 : K.lookup f6 = some ⟨oc6, od6, .func (PySem.W.fnOf "paragraphs" "paragraphs" (defArgs s_paragraphs) (defBody s_paragraphs) (defScope s_paragraphs) .none kV6 dc6 pm6 an6 cd6 ct6), sl6⟩) (c6 : PySem.W.codeIn K cd6 "paragraphs" = true) (k6 : PySem.W.keepIn K (.ref f6) = true)
    (a7 : PySem.W.nsIn K mainGlobals "words" = some (some (.ref f7)))
    (l7 : K.lookup f7 = some ⟨oc7, od7, .func (PySem.W.fnOf "words" "words" (defArgs s_words) (defBody s_words) (defScope s_words) .none kV7 dc7 pm7 an7 cd7 ct7), sl7⟩) (c7 : PySem.W.codeIn K cd7 "words" = true) (k7 : PySem.W.keepIn K (.ref f7) = true)
    (a8 : PySem.W.nsIn K mainGlobals "text_units" = some (some (.ref f8)))
    (l8 : K.lookup f8 = some ⟨oc8, od8, .func (PySem.W.fnOf "text_units" "text_units" (defArgs s_text_units) (defBody s_text_units) (defScope s_text_units) .none kV8 dc8 pm8 an8 cd8 ct8), sl8⟩) (c8 : PySem.W.codeIn K cd8 "text_units" = true) (k8 : PySem.W.keepIn K (.ref f8) = true)
    (a9 : PySem.W.nsIn K mainGlobals "_law_paragraphs" = some (some (.ref f9)))
    (l9 : K.lookup f9 = some ⟨oc9, od9, .func (PySem.W.fnOf "_law_paragraphs" "_law_paragraphs" (defArgs s__law_paragraphs) (defBody s__law_paragraphs) (defScope s__law_paragraphs) .none kV9 dc9 pm9 an9 cd9 ct9), sl9⟩) (c9 : PySem.W.codeIn K cd9 "_law_paragraphs" = true) (k9 : PySem.W.keepIn K (.ref f9) = true)
    (a10 : PySem.W.nsIn K mainGlobals "_law_words" = some (some (.ref f10)))
    (l10 : K.lookup f10 = some ⟨oc10, od10, .func (PySem.W.fnOf "_law_words" "_law_words" (defArgs s__law_words) (defBody s__law_words) (defScope s__law_words) .none kV10 dc10 pm10 an10 cd10 ct10), sl10⟩) (c10 : PySem.W.codeIn K cd10 "_law_words" = true) (k10 : PySem.W.keepIn K (.ref f10) = true)
    (a11 : PySem.W.nsIn K mainGlobals "_law_advance" = some (some (.ref f11)))
    (l11 : K.lookup f11 = some ⟨oc11, od11, .func (PySem.W.fnOf "_law_advance" "_law_advance" (defArgs s__law_advance) (defBody s__law_advance) (defScope s__law_advance) .none kV11 dc11 pm11 an11 cd11 ct11), sl11⟩) (c11 : PySem.W.codeIn K cd11 "_law_advance" = true) (k11 : PySem.W.keepIn K (.ref f11) = true)
    (a12 : PySem.W.nsIn K mainGlobals "_law_extent" = some (some (.ref f12)))
    (l12 : K.lookup f12 = some ⟨oc12, od12, .func (PySem.W.fnOf "_law_extent" "_law_extent" (defArgs s__law_extent) (defBody s__law_extent) (defScope s__law_extent) .none kV12 dc12 pm12 an12 cd12 ct12), sl12⟩) (c12 : PySem.W.codeIn K cd12 "_law_extent" = true) (k12 : PySem.W.keepIn K (.ref f12) = true)
    (a13 : PySem.W.nsIn K mainGlobals "_law_units" = some (some (.ref f13)))
    (l13 : K.lookup f13 = some ⟨oc13, od13, .func (PySem.W.fnOf "_law_units" "_law_units" (defArgs s__law_units) (defBody s__law_units) (defScope s__law_units) .none kV13 dc13 pm13 an13 cd13 ct13), sl13⟩) (c13 : PySem.W.codeIn K cd13 "_law_units" = true) (k13 : PySem.W.keepIn K (.ref f13) = true)
    (a14 : PySem.W.nsIn K mainGlobals "_law_pieces" = some (some (.ref f14)))
    (l14 : K.lookup f14 = some ⟨oc14, od14, .func (PySem.W.fnOf "_law_pieces" "_law_pieces" (defArgs s__law_pieces) (defBody s__law_pieces) (defScope s__law_pieces) .none kV14 dc14 pm14 an14 cd14 ct14), sl14⟩) (c14 : PySem.W.codeIn K cd14 "_law_pieces" = true) (k14 : PySem.W.keepIn K (.ref f14) = true)
    (a15 : PySem.W.nsIn K mainGlobals "_law_lines" = some (some (.ref f15)))
    (l15 : K.lookup f15 = some ⟨oc15, od15, .func (PySem.W.fnOf "_law_lines" "_law_lines" (defArgs s__law_lines) (defBody s__law_lines) (defScope s__law_lines) .none kV15 dc15 pm15 an15 cd15 ct15), sl15⟩) (c15 : PySem.W.codeIn K cd15 "_law_lines" = true) (k15 : PySem.W.keepIn K (.ref f15) = true)
    (a16 : PySem.W.nsIn K mainGlobals "line_width" = some (some (.ref f16)))
    (l16 : K.lookup f16 = some ⟨oc16, od16, .func (PySem.W.fnOf "line_width" "line_width" (defArgs s_line_width) (defBody s_line_width) (defScope s_line_width) .none kV16 dc16 pm16 an16 cd16 ct16), sl16⟩) (c16 : PySem.W.codeIn K cd16 "line_width" = true) (k16 : PySem.W.keepIn K (.ref f16) = true)
    (a17 : PySem.W.nsIn K mainGlobals "set_lines" = some (some (.ref f17)))
    (l17 : K.lookup f17 = some ⟨oc17, od17, .func (PySem.W.fnOf "set_lines" "set_lines" (defArgs s_set_lines) (defBody s_set_lines) (defScope s_set_lines) .none kV17 dc17 pm17 an17 cd17 ct17), sl17⟩) (c17 : PySem.W.codeIn K cd17 "set_lines" = true) (k17 : PySem.W.keepIn K (.ref f17) = true)
    (a18 : PySem.W.nsIn K mainGlobals "place_pieces" = some (some (.ref f18)))
    (l18 : K.lookup f18 = some ⟨oc18, od18, .func (PySem.W.fnOf "place_pieces" "place_pieces" (defArgs s_place_pieces) (defBody s_place_pieces) (defScope s_place_pieces) .none kV18 dc18 pm18 an18 cd18 ct18), sl18⟩) (c18 : PySem.W.codeIn K cd18 "place_pieces" = true) (k18 : PySem.W.keepIn K (.ref f18) = true)
    (a19 : PySem.W.nsIn K mainGlobals "_law_placed" = some (some (.ref f19)))
    (l19 : K.lookup f19 = some ⟨oc19, od19, .func (PySem.W.fnOf "_law_placed" "_law_placed" (defArgs s__law_placed) (defBody s__law_placed) (defScope s__law_placed) .none kV19 dc19 pm19 an19 cd19 ct19), sl19⟩) (c19 : PySem.W.codeIn K cd19 "_law_placed" = true) (k19 : PySem.W.keepIn K (.ref f19) = true)
    (a20 : PySem.W.nsIn K mainGlobals "_law_is_integer" = some (some (.ref f20)))
    (l20 : K.lookup f20 = some ⟨oc20, od20, .func (PySem.W.fnOf "_law_is_integer" "_law_is_integer" (defArgs s__law_is_integer) (defBody s__law_is_integer) (defScope s__law_is_integer) .none kV20 dc20 pm20 an20 cd20 ct20), sl20⟩) (c20 : PySem.W.codeIn K cd20 "_law_is_integer" = true) (k20 : PySem.W.keepIn K (.ref f20) = true)
    (a21 : PySem.W.nsIn K mainGlobals "law" = some (some (.ref f21)))
    (l21 : K.lookup f21 = some ⟨oc21, od21, .func (PySem.W.fnOf "law" "law" (defArgs s_law) (defBody s_law) (defScope s_law) .none kV21 dc21 pm21 an21 cd21 ct21), sl21⟩) (c21 : PySem.W.codeIn K cd21 "law" = true) (k21 : PySem.W.keepIn K (.ref f21) = true)
    (z_int : PySem.W.nsIn K mainGlobals "int" = some none)
    (z_len : PySem.W.nsIn K mainGlobals "len" = some none)
    (z_range : PySem.W.nsIn K mainGlobals "range" = some none)
    (z_sum : PySem.W.nsIn K mainGlobals "sum" = some none)
    (z_max : PySem.W.nsIn K mainGlobals "max" = some none)
    (z_bool : PySem.W.nsIn K mainGlobals "bool" = some none)
    (z_isinstance : PySem.W.nsIn K mainGlobals "isinstance" = some none)
    (z_dict : PySem.W.nsIn K mainGlobals "dict" = some none)
    (z_list : PySem.W.nsIn K mainGlobals "list" = some none)
    (c_BROAD : PySem.W.nsIn K mainGlobals "BROAD" = some (some (.str "mwMW@" t_BROAD)))
    (c_THIN : PySem.W.nsIn K mainGlobals "THIN" = some (some (.str " .,':;!|ijl" t_THIN))) :
    ∃ fd : FuncData, (∀ (s : Shared) (v : Value), BindsTo s fd ⟨[v], []⟩ [("script", v)]) ∧ ∀ base : Heap, K.In base → base.Ns mainGlobals mg → FnOk l.prog w K mg base CX0 5 fa fd ["script"] (spD K .val [.scr] F_law) := by
  have e := hfa.symm.trans (PySem.W.mg_of X G a21)
  cases e
  have F0 := fun_mk (st := s__law_next) l0 c0 k0
  have F1 := fun_mk (st := s__law_sign) l1 c1 k1
  have F2 := fun_mk (st := s__law_string) l2 c2 k2
  have F3 := fun_mk (st := s_units) l3 c3 k3
  have F4 := fun_mk (st := s_advance) l4 c4 k4
  have F5 := fun_mk (st := s_offsets) l5 c5 k5
  have F6 := fun_mk (st := s_paragraphs) l6 c6 k6
  have F7 := fun_mk (st := s_words) l7 c7 k7
  have F8 := fun_mk (st := s_text_units) l8 c8 k8
  have F9 := fun_mk (st := s__law_paragraphs) l9 c9 k9
  have F10 := fun_mk (st := s__law_words) l10 c10 k10
  have F11 := fun_mk (st := s__law_advance) l11 c11 k11
  have F12 := fun_mk (st := s__law_extent) l12 c12 k12
  have F13 := fun_mk (st := s__law_units) l13 c13 k13
  have F14 := fun_mk (st := s__law_pieces) l14 c14 k14
  have F15 := fun_mk (st := s__law_lines) l15 c15 k15
  have F16 := fun_mk (st := s_line_width) l16 c16 k16
  have F17 := fun_mk (st := s_set_lines) l17 c17 k17
  have F18 := fun_mk (st := s_place_pieces) l18 c18 k18
  have F19 := fun_mk (st := s__law_placed) l19 c19 k19
  have F20 := fun_mk (st := s__law_is_integer) l20 c20 k20
  have F21 := fun_mk (st := s_law) l21 c21 k21
  refine ⟨PySem.W.fnOf "law" "law" (defArgs s_law) (defBody s_law) (defScope s_law) .none kV21 dc21 pm21 an21 cd21 ct21, fun s v => .of_eq rfl, fun base _ _ => ?_⟩
  have C__law_next : Fn1W l.prog w K mg base (fun _ => 0) "_law_next" ["state", "many"] 1 (.md .val) [.q, (.md .bor)] F__law_next := ⟨_, _, ok__law_next (cl := (fun _ => 0)) F0 (PySem.W.mg_none_of X G z_int) (PySem.W.mg_none_of X G z_len), PySem.W.mg_of X G a0, k0, F0.binds (ps := ["state", "many"]) fun _ _ _ _ _ _ us hl => match us, hl with | [_, _], _ => rfl⟩
  have C__law_sign : Fn1W l.prog w K mg base (fun _ => 0) "_law_sign" ["state"] 2 (.md .val) [.q] F__law_sign := ⟨_, _, ok__law_sign (cl := (fun _ => 0)) F1 C__law_next (PySem.W.mg_none_of X G z_len), PySem.W.mg_of X G a1, k1, F1.binds (ps := ["state"]) fun _ _ _ _ _ _ us hl => match us, hl with | [_], _ => rfl⟩
  have C__law_string : Fn1W l.prog w K mg base (fun _ => 0) "_law_string" ["state"] 3 (.md .val) [.q] F__law_string := ⟨_, _, ok__law_string (cl := (fun _ => 0)) F2 C__law_next C__law_sign (PySem.W.mg_none_of X G z_range), PySem.W.mg_of X G a2, k2, F2.binds (ps := ["state"]) fun _ _ _ _ _ _ us hl => match us, hl with | [_], _ => rfl⟩
  have C_units : Fn1 l.prog w K mg base "units" ["char"] 1 .val [.bor] F_units := ⟨_, _, ok_units F3 (PySem.W.mg_of X G c_BROAD) (PySem.W.mg_of X G c_THIN), PySem.W.mg_of X G a3, k3, F3.binds (ps := ["char"]) fun _ _ _ _ _ _ us hl => match us, hl with | [_], _ => rfl⟩
  have C_advance : Fn1 l.prog w K mg base "advance" ["char", "size"] 2 .val [.bor, .bor] F_advance := ⟨_, _, ok_advance F4 C_units, PySem.W.mg_of X G a4, k4, F4.binds (ps := ["char", "size"]) fun _ _ _ _ _ _ us hl => match us, hl with | [_, _], _ => rfl⟩
  have C_offsets : Fn1 l.prog w K mg base "offsets" ["string", "size"] 3 .new [.bor, .bor] F_offsets := ⟨_, _, ok_offsets F5 C_advance, PySem.W.mg_of X G a5, k5, F5.binds (ps := ["string", "size"]) fun _ _ _ _ _ _ us hl => match us, hl with | [_, _], _ => rfl⟩
  have C_paragraphs : Fn1 l.prog w K mg base "paragraphs" ["string"] 1 .new [.bor] F_paragraphs := ⟨_, _, ok_paragraphs F6 (PySem.W.mg_none_of X G z_len), PySem.W.mg_of X G a6, k6, F6.binds (ps := ["string"]) fun _ _ _ _ _ _ us hl => match us, hl with | [_], _ => rfl⟩
  have C_words : Fn1 l.prog w K mg base "words" ["string", "start", "end"] 1 .new [.bor, .val, .val] F_words := ⟨_, _, ok_words F7 (PySem.W.mg_none_of X G z_range), PySem.W.mg_of X G a7, k7, F7.binds (ps := ["string", "start", "end"]) fun _ _ _ _ _ _ us hl => match us, hl with | [_, _, _], _ => rfl⟩
  have C_text_units : Fn1 l.prog w K mg base "text_units" ["child", "string", "size"] 4 .new [.val, .bor, .bor] F_text_units := ⟨_, _, ok_text_units F8 C_offsets C_paragraphs C_words, PySem.W.mg_of X G a8, k8, F8.binds (ps := ["child", "string", "size"]) fun _ _ _ _ _ _ us hl => match us, hl with | [_, _, _], _ => rfl⟩
  have C__law_paragraphs : Fn1 l.prog w K mg base "_law_paragraphs" ["text"] 1 .new [.bor] F__law_paragraphs := ⟨_, _, ok__law_paragraphs F9 (PySem.W.mg_none_of X G z_len), PySem.W.mg_of X G a9, k9, F9.binds (ps := ["text"]) fun _ _ _ _ _ _ us hl => match us, hl with | [_], _ => rfl⟩
  have C__law_words : Fn1 l.prog w K mg base "_law_words" ["text", "start", "end"] 1 .new [.bor, .val, .val] F__law_words := ⟨_, _, ok__law_words F10 (PySem.W.mg_none_of X G z_range), PySem.W.mg_of X G a10, k10, F10.binds (ps := ["text", "start", "end"]) fun _ _ _ _ _ _ us hl => match us, hl with | [_, _, _], _ => rfl⟩
  have C__law_advance : Fn1 l.prog w K mg base "_law_advance" ["char", "scale"] 1 .val [.bor, .val] F__law_advance := ⟨_, _, ok__law_advance F11, PySem.W.mg_of X G a11, k11, F11.binds (ps := ["char", "scale"]) fun _ _ _ _ _ _ us hl => match us, hl with | [_, _], _ => rfl⟩
  have C__law_extent : Fn1 l.prog w K mg base "_law_extent" ["text", "scale"] 2 .val [.bor, .val] F__law_extent := ⟨_, _, ok__law_extent F12 C__law_advance (PySem.W.mg_none_of X G z_sum), PySem.W.mg_of X G a12, k12, F12.binds (ps := ["text", "scale"]) fun _ _ _ _ _ _ us hl => match us, hl with | [_, _], _ => rfl⟩
  have C__law_units : Fn1 l.prog w K mg base "_law_units" ["child", "text", "scale"] 3 .new [.val, .bor, .val] F__law_units := ⟨_, _, ok__law_units F13 C__law_paragraphs C__law_words C__law_extent (PySem.W.mg_none_of X G z_len) (PySem.W.mg_none_of X G z_range), PySem.W.mg_of X G a13, k13, F13.binds (ps := ["child", "text", "scale"]) fun _ _ _ _ _ _ us hl => match us, hl with | [_, _, _], _ => rfl⟩
  have C__law_pieces : Fn1 l.prog w K mg base "_law_pieces" ["items", "texts", "widths", "scales", "gap"] 3 .new [.bor, .bor, .bor, .bor, .bor] F__law_pieces := ⟨_, _, ok__law_pieces F14 C__law_extent (PySem.W.mg_none_of X G z_len), PySem.W.mg_of X G a14, k14, F14.binds (ps := ["items", "texts", "widths", "scales", "gap"]) fun _ _ _ _ _ _ us hl => match us, hl with | [_, _, _, _, _], _ => rfl⟩
  have C__law_lines : Fn1 l.prog w K mg base "_law_lines" ["order", "texts", "widths", "scales", "room", "gap"] 4 .new [.bor, .bor, .bor, .bor, .bor, .bor] F__law_lines := ⟨_, _, ok__law_lines F15 C__law_paragraphs C__law_words C__law_pieces (PySem.W.mg_none_of X G z_len) (PySem.W.mg_none_of X G z_range), PySem.W.mg_of X G a15, k15, F15.binds (ps := ["order", "texts", "widths", "scales", "room", "gap"]) fun _ _ _ _ _ _ us hl => match us, hl with | [_, _, _, _, _, _], _ => rfl⟩
  have C_line_width : Fn1 l.prog w K mg base "line_width" ["line"] 1 .val [.bor] F_line_width := ⟨_, _, ok_line_width F16, PySem.W.mg_of X G a16, k16, F16.binds (ps := ["line"]) fun _ _ _ _ _ _ us hl => match us, hl with | [_], _ => rfl⟩
  have C_set_lines : Fn1W l.prog w K mg base (fun _ => 0) "set_lines" ["units", "room", "gap"] 2 .any [(.md .bor), (.md .bor), (.md .val)] F_set_lines := ⟨_, _, ok_set_lines (cl := (fun _ => 0)) F17 C_line_width (PySem.W.mg_none_of X G z_len), PySem.W.mg_of X G a17, k17, F17.binds (ps := ["units", "room", "gap"]) fun _ _ _ _ _ _ us hl => match us, hl with | [_, _, _], _ => rfl⟩
  have C_place_pieces : Fn1W l.prog w K mg base (fun _ => 0) "place_pieces" ["lines", "heights", "room", "align"] 2 (.md .val) [.q, (.md .bor), (.md .bor), (.md .bor)] F_place_pieces := ⟨_, _, ok_place_pieces (cl := (fun _ => 0)) F18 C_line_width (PySem.W.mg_none_of X G z_max), PySem.W.mg_of X G a18, k18, F18.binds (ps := ["lines", "heights", "room", "align"]) fun _ _ _ _ _ _ us hl => match us, hl with | [_, _, _, _], _ => rfl⟩
  have C__law_placed : Fn1 l.prog w K mg base "_law_placed" ["lines", "heights", "room", "align"] 1 .val [.bor, .bor, .bor, .bor] F__law_placed := ⟨_, _, ok__law_placed F19 (PySem.W.mg_none_of X G z_max), PySem.W.mg_of X G a19, k19, F19.binds (ps := ["lines", "heights", "room", "align"]) fun _ _ _ _ _ _ us hl => match us, hl with | [_, _, _, _], _ => rfl⟩
  have C__law_is_integer : Fn1 l.prog w K mg base "_law_is_integer" ["value"] 1 .val [.bor] F__law_is_integer := ⟨_, _, ok__law_is_integer F20 (PySem.W.mg_none_of X G z_bool) (PySem.W.mg_none_of X G z_int) (PySem.W.mg_none_of X G z_isinstance), PySem.W.mg_of X G a20, k20, F20.binds (ps := ["value"]) fun _ _ _ _ _ _ us hl => match us, hl with | [_], _ => rfl⟩
  exact ok_law (cl := (fun _ => 0)) F21 C__law_next C__law_string C_text_units C__law_units C__law_lines C_set_lines C_line_width C_place_pieces C__law_placed C__law_is_integer (PySem.W.mg_none_of X G z_dict) (PySem.W.mg_none_of X G z_isinstance) (PySem.W.mg_none_of X G z_len) (PySem.W.mg_none_of X G z_list) (PySem.W.mg_none_of X G z_max) (PySem.W.mg_none_of X G z_range)
end Lw

namespace Lw
open PySem L2 DV
local macro_rules | `(tactic| push_cast only [$xs,*]) => `(tactic| simp -implicitDefEqProofs only [eK_r, eV_0, eV_s, eB_0v, eB_0b, eB_0p, eB_0o, eB_s, eP_0v, eP_0b, eP_s, eS_0, eS_s, getS_0, getS_s, aNil_r, aCons_r, eOp_r, eUn_r, eCall_r, eBm_r, eTup_r, eLst_r, eIf_r, eAnd_r, eOr_r, eNot_r, eIs_r, eChain_r, eSl_r, oNo_r, oSo_r, asI_r, bT_r, bV_r, bYes_r, asB_r, truth_b, truth_l, truth_t, truth_n, truth_i, bAnd_r, bOr_r, bNot_r, oAdd_i, oSub_i, oNeg_i, oLt_i, oLe_i, oGt_i, oGe_i, cInt_i, cInt_b, cLen_l, cLen_t, cList_l, cList_t, cMax2_i, cMin2_i, cAbs_i, isT_int_i, isT_bool_i, isT_bool_b, isT_int_b, isT_tuple_t, isT_list_l, oEq_i, oNe_i, oEq_b, oNe_b, oIsN_n, oNotN_n, oIsN_i, oNotN_i, oIsB_b, oNotB_b, sSeqn_r, sNext_r, sBrk_r, sCnt_r, sRetN_r, sExpr_r, sRet_r, sRetOwn_r, sIf_r, sSet_r, sOwn_r, sAsg_r, gV_r, gT_r, gsNil_r, gsCons_r, sFz_r, sAug_r, addI_r, subI_r, sSeq_r, sArgs_r, itemsOf_l, itemsOf_t, sMut_r, fApp_r, Option.bind_some, Option.map_some, List.length_cons, List.length_nil, Nat.zero_add, Nat.reduceAdd, Nat.reduceLT, Nat.reduceLeDiff, List.set_cons_zero, List.set_cons_succ, if_true, Bool.false_eq_true, if_false, Bool.not_true, Bool.not_false, decide_true, decide_false, reduceCtorEq, $xs,*])
local macro_rules | `(tactic| push_cast [$xs,*]) => `(tactic| simp -implicitDefEqProofs only [eK_r, eV_0, eV_s, eB_0v, eB_0b, eB_0p, eB_0o, eB_s, eP_0v, eP_0b, eP_s, eS_0, eS_s, getS_0, getS_s, aNil_r, aCons_r, eOp_r, eUn_r, eCall_r, eBm_r, eTup_r, eLst_r, eIf_r, eAnd_r, eOr_r, eNot_r, eIs_r, eChain_r, eSl_r, oNo_r, oSo_r, asI_r, bT_r, bV_r, bYes_r, asB_r, truth_b, truth_l, truth_t, truth_n, truth_i, bAnd_r, bOr_r, bNot_r, oAdd_i, oSub_i, oNeg_i, oLt_i, oLe_i, oGt_i, oGe_i, cInt_i, cInt_b, cLen_l, cLen_t, cList_l, cList_t, cMax2_i, cMin2_i, cAbs_i, isT_int_i, isT_bool_i, isT_bool_b, isT_int_b, isT_tuple_t, isT_list_l, oEq_i, oNe_i, oEq_b, oNe_b, oIsN_n, oNotN_n, oIsN_i, oNotN_i, oIsB_b, oNotB_b, sSeqn_r, sNext_r, sBrk_r, sCnt_r, sRetN_r, sExpr_r, sRet_r, sRetOwn_r, sIf_r, sSet_r, sOwn_r, sAsg_r, gV_r, gT_r, gsNil_r, gsCons_r, sFz_r, sAug_r, addI_r, subI_r, sSeq_r, sArgs_r, itemsOf_l, itemsOf_t, sMut_r, fApp_r, Option.bind_some, Option.map_some, List.length_cons, List.length_nil, Nat.zero_add, Nat.reduceAdd, Nat.reduceLT, Nat.reduceLeDiff, List.set_cons_zero, List.set_cons_succ, if_true, Bool.false_eq_true, if_false, Bool.not_true, Bool.not_false, decide_true, decide_false, reduceCtorEq, unD_nil, unD_d, mL_r, mLB_r, mOp_r, mUn_r, mT_r, mV_r, mNot_r, mAndB_r, mOrB_r, mIte_r, maNil_r, maD_r, mF_r, mFK_r, mQ_r, mQR_r, mRv_0, mRv_s, mAndV_r, mOrV_r, mNotV_r, mNext_r, mIf_r, mSet_r, mOwn_r, mAny_r, mAsg_r, mRet_r, List.cons_append, List.nil_append, List.append_nil, $xs,*])
/-! ### the law's draws, anywhere in the world -/
def StW (w : Wd) (h0 h : Nat) (cs : List Int) (a b : Int) : Wd := (w.set h0 (.lst (cs.map fun i => .d (.int i)))).set h (.lst [.r h0, .d (.int a), .d (.int b)])
section
variable {w : Wd} {h0 h : Nat}
theorem StW_0 (hne : h0 ≠ h) (l0 : h0 < w.length) (cs : List Int) (a b : Int) : (StW w h0 h cs a b)[h0]? = some (.lst (cs.map fun i => .d (.int i))) := by
  unfold StW; rw [List.getElem?_set_ne (Ne.symm hne), List.getElem?_set_self l0]
theorem StW_1 (l1 : h < w.length) (cs : List Int) (a b : Int) : (StW w h0 h cs a b)[h]? = some (.lst [.r h0, .d (.int a), .d (.int b)]) := by
  unfold StW; rw [List.getElem?_set_self (by rw [List.length_set]; exact l1)]
theorem StW_s1 (cs : List Int) (a b a' b' : Int) : (StW w h0 h cs a b).set h (.lst [.r h0, .d (.int a'), .d (.int b')]) = StW w h0 h cs a' b' := by
  unfold StW; rw [List.set_set]
theorem StW_s0 (hne : h0 ≠ h) (cs cs' : List Int) (a b : Int) : (StW w h0 h cs a b).set h0 (.lst (cs'.map fun i => .d (.int i))) = StW w h0 h cs' a b := by
  unfold StW; rw [List.set_comm _ _ (Ne.symm hne), List.set_set]
theorem StW_id {cs : List Int} {a b : Int} (e0 : w[h0]? = some (.lst (cs.map fun i => .d (.int i)))) (e1 : w[h]? = some (.lst [.r h0, .d (.int a), .d (.int b)])) : StW w h0 h cs a b = w := by
  unfold StW
  apply List.ext_getElem?
  intro j
  by_cases z : h = j
  · subst z; rw [List.getElem?_set_self (by rw [List.length_set]; exact (List.getElem?_eq_some_iff.mp e1).1), e1]
  · rw [List.getElem?_set_ne z]
    by_cases y : h0 = j
    · subst y; rw [List.getElem?_set_self (List.getElem?_eq_some_iff.mp e0).1, e0]
    · rw [List.getElem?_set_ne y]
theorem nextG (hne : h0 ≠ h) (l0 : h0 < w.length) (l1 : h < w.length) (cs : List Int) (a b : Int) (ha : 0 ≤ a) (m : Int) (hm : 0 < m) (hm2 : m < 18446744073709551616) : ∃ (d : Int) (cs' : List Int) (a' b' : Int), F__law_next [.r h, .d (.int m)] (StW w h0 h cs a b) = some (.d (.int d), StW w h0 h cs' a' b') ∧ 0 ≤ d ∧ d < m ∧ 0 ≤ a' := by
  have i1 : ∀ (ρ : Rho) (cs : List Int) (a b : Int), mD (mIx (mR (mVar 0)) (mL (eK (.int 1)))) (.st h :: ρ) (StW w h0 h cs a b) = some (.int a, StW w h0 h cs a b) := fun ρ cs a b => mIxD_eq rfl rfl (StW_1 l1 ..) rfl
  have i2 : ∀ (ρ : Rho) (cs : List Int) (a b : Int), mD (mIx (mR (mVar 0)) (mL (eK (.int 2)))) (.st h :: ρ) (StW w h0 h cs a b) = some (.int b, StW w h0 h cs a b) := fun ρ cs a b => mIxD_eq rfl rfl (StW_1 l1 ..) rfl
  have i0 : ∀ (ρ : Rho) (cs : List Int) (a b : Int), mR (mIx (mR (mVar 0)) (mL (eK (.int 0)))) (.st h :: ρ) (StW w h0 h cs a b) = some (h0, StW w h0 h cs a b) := fun ρ cs a b => mIxR_eq rfl rfl (StW_1 l1 ..) rfl
  have p1 : ∀ (ρ : Rho) (cs : List Int) (a b : Int) (v : Int) (q : MQ) (w0 : Wd), q (.st h :: ρ) w0 = some (.d (.int v), StW w h0 h cs a b) → mPutI (mR (mVar 0)) (mL (eK (.int 1))) q (.st h :: ρ) w0 = some (.nx (.st h :: ρ), StW w h0 h cs v b) := fun ρ cs a b v q w0 e => by
    rw [mPutI_eq (k := 1) e rfl rfl (StW_1 l1 cs a b) rfl, ← StW_s1 cs a b v b]; rfl
  have p2 : ∀ (ρ : Rho) (cs : List Int) (a b : Int) (v : Int) (q : MQ) (w0 : Wd), q (.st h :: ρ) w0 = some (.d (.int v), StW w h0 h cs a b) → mPutI (mR (mVar 0)) (mL (eK (.int 2))) q (.st h :: ρ) w0 = some (.nx (.st h :: ρ), StW w h0 h cs a v) := fun ρ cs a b v q w0 e => by
    rw [mPutI_eq (k := 2) e rfl rfl (StW_1 l1 cs a b) rfl, ← StW_s1 cs a b a v]; rfl
  -- the first statement
  have first : ∃ (cs' : List Int) (a' b' : Int) (x2 : Slot), 0 ≤ a' ∧ (mIf (mT (mOp oLt (mD (mIx (mR (mVar 0)) (mL (eK (.int 1))))) (mL (eB 1))))
    (mIf (mT (mOp oGt (mLenL (mR (mIx (mR (mVar 0)) (mL (eK (.int 0)))))) (mL (eK (.int 0)))))
      (mSeq (mSet 2 (mD (mMth lPopAt (mR (mIx (mR (mVar 0)) (mL (eK (.int 0))))) (maD (mL (eK (.int 0))) maNil))))
      (mSeq (mPutI (mR (mVar 0)) (mL (eK (.int 1))) (mQ (mL (eIf (bT (eOp oGe (eB 2) (eK (.int 0)))) (eOp oMulS (eK (.int 2)) (eB 2)) (eOp oSub (eOp oMulS (eUn oNeg (eK (.int 2))) (eB 2)) (eK (.int 1)))))))
      (mPutI (mR (mVar 0)) (mL (eK (.int 2))) (mQ (mOp oMod (mF cInt (maD (mOp oAdd (mOp oMulS (mD (mIx (mR (mVar 0)) (mL (eK (.int 2))))) (mL (eK (.int 69621)))) (mD (mIx (mR (mVar 0)) (mL (eK (.int 1)))))) maNil)) (mL (eK (.int 2147483647))))))))
      (mSeq (mPutI (mR (mVar 0)) (mL (eK (.int 2))) (mQ (mOp oMod (mF cInt (maD (mOp oAdd (mOp oMulS (mD (mIx (mR (mVar 0)) (mL (eK (.int 2))))) (mL (eK (.int 48271)))) (mL (eK (.int 11)))) maNil)) (mL (eK (.int 2147483647))))))
      (mPutI (mR (mVar 0)) (mL (eK (.int 1))) (mQ (mOp oMod (mF cInt (maD (mOp oMulS (mD (mIx (mR (mVar 0)) (mL (eK (.int 2))))) (mD (mIx (mR (mVar 0)) (mL (eK (.int 2)))))) maNil)) (mL (eK (.int 1000003))))))))
    mNext) [.st h, .bor (.int m), .un, .un] (StW w h0 h cs a b) = some (.nx [.st h, .bor (.int m), x2, .un], StW w h0 h cs' a' b') := by
    by_cases c : a < m
    · have t1 : (mT (mOp oLt (mD (mIx (mR (mVar 0)) (mL (eK (.int 1))))) (mL (eB 1)))) [.st h, .bor (.int m), .un, .un] (StW w h0 h cs a b) = some (true, StW w h0 h cs a b) := by push_cast [i1, c]
      cases cs with
      | nil =>
        have t2 : (mT (mOp oGt (mLenL (mR (mIx (mR (mVar 0)) (mL (eK (.int 0)))))) (mL (eK (.int 0))))) [.st h, .bor (.int m), .un, .un] (StW w h0 h [] a b) = some (false, StW w h0 h [] a b) := by
          have e := mLenL_eq (i0 [.bor (.int m), .un, .un] [] a b) (StW_0 hne l0 ..)
          push_cast [e, show ((0 : Int) < (((([] : List Int).map fun i => WV.d (.int i)).length : Nat) : Int)) = False by simp]
        have m1 : oMulS (.int b) (.int 48271) = some (.int (b * 48271)) := oMul_r (by omega) (by omega)
        have m2 : oMod (.int (b * 48271 + 11)) (.int 2147483647) = some (.int ((b * 48271 + 11) % 2147483647)) := oMod_i (by omega)
        have hb1 := Int.emod_nonneg (b * 48271 + 11) (show (2147483647 : Int) ≠ 0 by decide)
        have hb2 := Int.emod_lt_of_pos (b * 48271 + 11) (show (0 : Int) < 2147483647 by decide)
        generalize (b * 48271 + 11) % 2147483647 = b' at *
        have m3 : oMulS (.int b') (.int b') = some (.int (b' * b')) := oMul_r (by omega) (by omega)
        have m4 : oMod (.int (b' * b')) (.int 1000003) = some (.int (b' * b' % 1000003)) := oMod_i (by omega)
        refine ⟨[], b' * b' % 1000003, b', .un, Int.emod_nonneg _ (by decide), ?_⟩
        rw [mIf_t t1, mIf_f t2]
        rw [mseq_nx (p2 [.bor (.int m), .un, .un] [] a b b' _ _ (by push_cast [i2, m1, m2]))]
        exact p1 [.bor (.int m), .un, .un] [] a b' _ _ _ (by push_cast [i2, m3, m4])
      | cons c0 cs =>
        have t2 : (mT (mOp oGt (mLenL (mR (mIx (mR (mVar 0)) (mL (eK (.int 0)))))) (mL (eK (.int 0))))) [.st h, .bor (.int m), .un, .un] (StW w h0 h (c0 :: cs) a b) = some (true, StW w h0 h (c0 :: cs) a b) := by
          have e := mLenL_eq (i0 [.bor (.int m), .un, .un] (c0 :: cs) a b) (StW_0 hne l0 ..)
          push_cast [e, show ((0 : Int) < (((((c0 :: cs) : List Int).map fun i => WV.d (.int i)).length : Nat) : Int)) = True from eq_true (by rw [List.map_cons, List.length_cons]; omega)]
        have pp : mD (mMth lPopAt (mR (mIx (mR (mVar 0)) (mL (eK (.int 0))))) (maD (mL (eK (.int 0))) maNil)) [.st h, .bor (.int m), .un, .un] (StW w h0 h (c0 :: cs) a b) = some (.int c0, StW w h0 h cs a b) := by
          rw [← StW_s0 hne (c0 :: cs) cs a b]
          refine mD_eq (mMth_eq (args := [.d (.int 0)]) (l' := cs.map fun i => .d (.int i)) (i0 _ _ _ _) (StW_0 hne l0 ..) rfl (StW_0 hne l0 ..) ?_)
          rw [List.map_cons]
          unfold lPopAt
          simp [seqIndex?]
        obtain ⟨a', ha', hv⟩ : ∃ a' : Int, 0 ≤ a' ∧ (eIf (bT (eOp oGe (eB 2) (eK (.int 0)))) (eOp oMulS (eK (.int 2)) (eB 2)) (eOp oSub (eOp oMulS (eUn oNeg (eK (.int 2))) (eB 2)) (eK (.int 1)))) [.st h, .bor (.int m), .val (.int c0), .un] = some (.int a') := by
          have m1 : oMulS (.int 2) (.int c0) = some (.int (2 * c0)) := oMul_l (by omega) (by omega)
          have m2 : oMulS (.int (-2)) (.int c0) = some (.int (-2 * c0)) := oMul_l (by omega) (by omega)
          by_cases z : 0 ≤ c0
          · exact ⟨2 * c0, by omega, by push_cast only [z, m1]⟩
          · exact ⟨-2 * c0 - 1, by omega, by push_cast only [z, m2]⟩
        have m3 : oMulS (.int b) (.int 69621) = some (.int (b * 69621)) := oMul_r (by omega) (by omega)
        have m4 : oMod (.int (b * 69621 + a')) (.int 2147483647) = some (.int ((b * 69621 + a') % 2147483647)) := oMod_i (by omega)
        refine ⟨cs, a', (b * 69621 + a') % 2147483647, .val (.int c0), ha', ?_⟩
        rw [mIf_t t1, mIf_t t2]
        rw [mseq_nx (mSet_eq pp (by simp))]
        show mSeq _ _ [.st h, .bor (.int m), .val (.int c0), .un] _ = _
        rw [mseq_nx (p1 [.bor (.int m), .val (.int c0), .un] cs a b a' _ _ (by rw [mQ_r, mL_r, hv]; rfl))]
        exact p2 [.bor (.int m), .val (.int c0), .un] cs a' b _ _ _ (by push_cast [i1, i2, m3, m4])
    · refine ⟨cs, a, b, .un, ha, ?_⟩
      rw [mIf_f (w1 := StW w h0 h cs a b) (by push_cast [i1, c])]
      rfl
  obtain ⟨cs', a', b', x2, ha', first⟩ := first
  have m1 : oMod (.int a') (.int m) = some (.int (a' % m)) := oMod_i hm
  have m2 : oFdiv (.int a') (.int m) = some (.int (a' / m)) := oFdiv_i hm hm2
  refine ⟨a' % m, cs', a' / m, b', boxW_rt rfl ?_, Int.emod_nonneg _ (by omega), Int.emod_lt_of_pos _ hm, Int.ediv_nonneg ha' (by omega)⟩
  show B__law_next [.st h, .bor (.int m), .un, .un] (StW w h0 h cs a b) = _
  unfold B__law_next
  rw [mseq_nx first]
  rw [mseq_nx (mSet_eq (d := .int (a' % m)) (w1 := StW w h0 h cs' a' b') (by push_cast [i1, m1]) (by simp))]
  show mSeq _ _ [.st h, .bor (.int m), x2, .val (.int (a' % m))] _ = _
  rw [mseq_nx (p1 [.bor (.int m), x2, .val (.int (a' % m))] cs' a' b' (a' / m) _ _ (by push_cast [i1, m2]))]
  push_cast []
end

def onceV (c : Int) : Int := (c * 48271 + 12345) % 2147483647
def twiceV (c : Int) : Int := (onceV c * onceV c + 7 * onceV c + 3) % 2305843009213693951
def mixV (c : Int) : Int := (twiceV c * 16807 + 11) % 2305843009213693951
def srcV (c : Int) : Int := if 1000000000000000000 ≤ c then c - 1000000000000000000 else mixV c
def cellV (ns : List Int) (k : Nat) : Int := ns.getD k 0
theorem eLc_eq {fi : SI} {vs : List Nat} {ρ : Rho} {g : SG} {t : SB} {e : SE} {ds ys : List PyData} (h1 : fi ρ = some ds) (h2 : lcGo g t e (wipeR ρ vs) ds = some ys) (h3 : ys.length ≤ 4096) : eLc fi g t e vs ρ = some (.list ys) := by
  rw [eLc_r, h1]
  show (lcGo g t e (wipeR ρ vs) ds).bind _ = _
  rw [h2]
  exact if_pos (by rw [sizeLine_eq]; omega)
theorem sSet_eq {ρ : Rho} {e : SE} {d : PyData} {k : Nat} (h : e ρ = some d) (hk : k < ρ.length) : sSet k e ρ = some (.nx (ρ.set k (.val d))) := by
  rw [sSet_r, h]; exact if_pos hk
theorem sOwn_eq {ρ : Rho} {e : SE} {d : PyData} {k : Nat} (h : e ρ = some d) (hk : k < ρ.length) : sOwn k e ρ = some (.nx (ρ.set k (.own d))) := by
  rw [sOwn_r, h]; exact if_pos hk
theorem eCall1_eq {F : List PyData → Option PyData} {ρ : Rho} {e : SE} {d r : PyData} (h : e ρ = some d) (hF : F [d] = some r) : eCall F (aCons e aNil) ρ = some r := by
  rw [eCall_r, aCons_r, h]; exact hF
theorem sFor_eq {fi : SI} {g : SG} {b : SS} {ρ : Rho} {ds : List PyData} (h : fi ρ = some ds) : sFor fi g b ρ = forGo g b ds ρ := by
  rw [sFor_r, h]; rfl
theorem sArgs_eq {F : List PyData → Option (List PyData)} {r : SA} {ρ : Rho} {ds ds' : List PyData} (h1 : r ρ = some ds) (h2 : F ds = some ds') : sArgs F r ρ = some ds' := by
  rw [sArgs_r, h1]; exact h2
theorem rng1_n (n : Nat) (h : n ≤ 4096) : rng1 [.int (n : Nat)] = some (rangeD 0 n) := by
  rw [rng1_r (by omega) (by omega), Int.toNat_natCast]
theorem rangeD_cons (a n : Nat) : rangeD (a : Nat) (n + 1) = .int (a : Nat) :: rangeD ((a + 1 : Nat) : Int) n := by
  rw [rangeD_map, rangeD_map, List.range_succ_eq_map, List.map_cons, List.map_cons, List.map_map, List.map_map, List.map_map]
  have e : ∀ i : Nat, ((a : Int) + ((i + 1 : Nat) : Int)) = ((a + 1 : Nat) : Int) + (i : Int) := fun i => by omega
  have e0 : (a : Int) + ((0 : Nat) : Int) = (a : Int) := by omega
  refine congr (congrArg _ ?_) (List.map_congr_left fun i _ => ?_)
  · show PyData.int ((a : Int) + ((0 : Nat) : Int)) = _
    rw [e0]
  · show PyData.int ((a : Int) + ((i + 1 : Nat) : Int)) = PyData.int (((a + 1 : Nat) : Int) + (i : Int))
    rw [e]
/-! ### texts, by their signs -/
def tS (l : List Nat) : PyData := .str ⟨l.toArray⟩
theorem tLen1 (l : List Nat) : (⟨l.toArray⟩ : Str).length = l.length := by simp [Str.length]
theorem tAdd (a b : List Nat) (h : a.length + b.length ≤ 1000000) : oAdd (tS a) (tS b) = some (tS (a ++ b)) := by
  unfold tS oAdd
  simp only []
  rw [tLen1, tLen1, if_pos (by rw [sizeLine_eq]; omega)]
  congr 2
  show (⟨a.toArray ++ b.toArray⟩ : Str) = _
  rw [List.append_toArray]
theorem tIx (l : List Nat) (i : Int) (c : Nat) (hl : l.length ≤ 1000000) (h : atI l i = some c) : oIx (tS l) (.int i) = some (tS [c]) := by
  unfold tS oIx
  simp only []
  rw [tLen1, if_pos (by rw [sizeLine_eq]; omega), h]; rfl
theorem tSl (l : List Nat) (lo hi : Option Int) (hl : l.length ≤ 1000000) : oSl (tS l) lo hi = some (tS (cutG l lo hi)) := by
  unfold tS oSl
  simp only []
  rw [tLen1, if_pos (by rw [sizeLine_eq]; omega)]
  congr 2
theorem tLen (l : List Nat) (h : l.length ≤ 1000000) : cLen [tS l] = some (.int (l.length : Nat)) := by
  unfold tS cLen
  simp only []
  rw [tLen1, if_pos (by rw [sizeLine_eq]; omega)]
theorem tItems (l : List Nat) : itemsOf (tS l) = some (l.map fun c => tS [c]) := rfl
theorem tOk {l : List Nat} (h : ∀ c ∈ l, c < 128) : PyData.strOk ⟨l.toArray⟩ = true := by
  unfold PyData.strOk
  simp
  intro c hc
  exact Nat.lt_trans (h c hc) (by decide)
theorem tEq {a b : List Nat} (ha : ∀ c ∈ a, c < 128) (hb : ∀ c ∈ b, c < 128) : oEq (tS a) (tS b) = some (.bool (decide (a = b))) := by
  have h1 : clean 9 (tS a) = true := by simpa [tS, clean] using tOk ha
  have h2 : clean 9 (tS b) = true := by simpa [tS, clean] using tOk hb
  rw [oEq_c h1 h2, eqv_dec h1 h2 (a = b) (by simp [tS])]
theorem tIn (c : Nat) (l : List Nat) : oIn (tS [c]) (tS l) = some (.bool (decide (c ∈ l))) := by
  unfold tS oIn oInS
  simp
def THINs : List Nat := [32, 46, 44, 39, 58, 59, 33, 124, 105, 106, 108]
def BROADs : List Nat := [109, 119, 77, 87, 64]
theorem lit (x : String) (l : List Nat) (h : Str.ofString x = ⟨l.toArray⟩) : PyData.str (Str.ofString x) = tS l := by rw [h]; rfl
theorem lit_thin : PyData.str (Str.ofString " .,':;!|ijl") = tS THINs := lit _ _ (by decide +kernel)
theorem lit_broad : PyData.str (Str.ofString "mwMW@") = tS BROADs := lit _ _ (by decide +kernel)
theorem lit_nl : PyData.str (Str.ofString "\n") = tS [10] := lit _ _ (by decide +kernel)
theorem lit_sp : PyData.str (Str.ofString " ") = tS [32] := lit _ _ (by decide +kernel)
theorem lit_no : PyData.str (Str.ofString "") = tS [] := lit _ _ (by decide +kernel)
def A1 : List Nat := [32, 33, 34, 35, 36, 38, 39, 40, 41, 42, 43, 44, 45, 46, 47, 48, 49, 50, 51, 52, 53, 54, 55, 56, 57, 58, 59, 60, 61, 62, 63, 64, 65, 66, 67, 68, 69, 70, 71, 72, 73, 74, 75, 76, 77, 78, 79, 80, 81, 82, 83, 84, 85, 86, 87, 88, 89, 90, 91, 92, 93, 94, 95, 96]
def A2 : List Nat := [97, 98, 99, 100, 101, 102, 103, 104, 105, 106, 107, 108, 109, 110, 111, 112, 113, 114, 115, 116, 117, 118, 119, 120, 121, 122, 123, 124, 125, 126, 10]
def ABC : List Nat := A1 ++ A2
def Asc (l : List Nat) : Prop := ∀ c ∈ l, c < 128
theorem Asc.app {a b : List Nat} (ha : Asc a) (hb : Asc b) : Asc (a ++ b) := fun c hc => (List.mem_append.mp hc).elim (ha c) (hb c)
theorem Asc.one {c : Nat} (h : c < 128) : Asc [c] := fun x hx => by rw [List.mem_singleton.mp hx]; exact h
theorem Asc.nil : Asc [] := fun x hx => by cases hx
theorem Asc.cut {l : List Nat} (h : Asc l) (lo hi : Option Int) : Asc (cutG l lo hi) := fun c hc => h c (List.mem_of_mem_drop (List.mem_of_mem_take hc))

def PrC (c : Nat) : Prop := c = 10 ∨ (32 ≤ c ∧ c ≤ 126 ∧ c ≠ 37)
instance (c : Nat) : Decidable (PrC c) := by unfold PrC; infer_instance
def Prt (l : List Nat) : Prop := ∀ c ∈ l, PrC c
theorem Prt.app {a b : List Nat} (ha : Prt a) (hb : Prt b) : Prt (a ++ b) := fun c hc => (List.mem_append.mp hc).elim (ha c) (hb c)
theorem Prt.one {c : Nat} (h : PrC c) : Prt [c] := fun x hx => by rw [List.mem_singleton.mp hx]; exact h
theorem Prt.nil : Prt [] := fun x hx => by cases hx
theorem Prt.cut {l : List Nat} (h : Prt l) (lo hi : Option Int) : Prt (cutG l lo hi) := fun c hc => h c (List.mem_of_mem_drop (List.mem_of_mem_take hc))
theorem Prt.asc {l : List Nat} (h : Prt l) : Asc l := fun c hc => by
  rcases h c hc with h | h <;> omega
/-! ### widths -/
def uV (c : Nat) : Int := if c = 10 then 0 else if c ∈ THINs then 1 else if c ∈ BROADs then 3 else 2
theorem uV_b (c : Nat) : 0 ≤ uV c ∧ uV c ≤ 3 := by
  unfold uV; split
  · omega
  · split
    · omega
    · split <;> omega
theorem asc_nl : Asc [10] := Asc.one (by decide)
theorem units_eq (c : Nat) (hc : c < 128) : F_units [tS [c]] = some (.int (uV c)) := by
  refine box_rt rfl ?_
  have e1 := tEq (a := [c]) (b := [10]) (Asc.one hc) asc_nl
  have e2 := tIn c THINs
  have e3 := tIn c BROADs
  unfold uV
  simp only [B_units, lit_nl, lit_thin, lit_broad]
  by_cases h1 : c = 10
  · subst h1; simp [e1]
  · by_cases h2 : c ∈ THINs
    · simp [e1, e2, h1, h2]
    · by_cases h3 : c ∈ BROADs <;> simp [e1, e2, e3, h1, h2, h3]
theorem advance_eq (c : Nat) (hc : c < 128) (s : Int) : F_advance [tS [c], .int s] = some (.int (uV c * s)) := by
  refine box_rt rfl ?_
  have := uV_b c
  simp (disch := omega) [B_advance, units_eq c hc, oMul_l]
theorem lawadv_eq (c : Nat) (hc : c < 128) (s : Int) : F__law_advance [tS [c], .int s] = some (.int (uV c * s)) := by
  refine box_rt rfl ?_
  have e1 := tEq (a := [c]) (b := [10]) (Asc.one hc) asc_nl
  have e2 := tIn c THINs
  have e3 := tIn c BROADs
  unfold uV
  simp only [B__law_advance, lit_nl, lit_thin, lit_broad]
  by_cases h1 : c = 10
  · subst h1; simp [e1]
  · by_cases h2 : c ∈ THINs
    · simp [e1, e2, h1, h2]
    · by_cases h3 : c ∈ BROADs <;> simp (disch := omega) [e1, e2, e3, h1, h2, h3, oMul_l]
def sumU (l : List Nat) : Int := (l.map uV).sum
theorem sumU_app (a b : List Nat) : sumU (a ++ b) = sumU a + sumU b := by unfold sumU; rw [List.map_append, List.sum_append]
def offV (l : List Nat) (s : Int) : List Int := (List.range (l.length + 1)).map fun i => sumU (l.take i) * s
theorem offV_len (l : List Nat) (s : Int) : (offV l s).length = l.length + 1 := by unfold offV; simp
theorem offV_get (l : List Nat) (s : Int) (i : Nat) (h : i ≤ l.length) : (offV l s)[i]? = some (sumU (l.take i) * s) := by
  unfold offV
  rw [List.getElem?_map, List.getElem?_range (by omega)]; rfl
def offP (l : List Nat) (s : Int) (n : Nat) : List Int := (List.range (n + 1)).map fun i => sumU (l.take i) * s
theorem offP_s (l : List Nat) (s : Int) (n : Nat) : offP l s (n + 1) = offP l s n ++ [sumU (l.take (n + 1)) * s] := by
  unfold offP
  rw [List.range_succ, List.map_append]; rfl
theorem atI_last {α : Type} (xs : List α) (a : α) : atI (xs ++ [a]) (-1) = some a := by
  unfold L2.atI ixN
  rw [if_neg (by decide), if_pos (by simp; omega)]
  show (xs ++ [a])[_]? = _
  rw [show (-1 + ((xs ++ [a]).length : Int)).toNat = xs.length by simp; omega]
  simp
theorem offP_last (l : List Nat) (s : Int) (n : Nat) : atI ((offP l s n).map PyData.int) (-1) = some (.int (sumU (l.take n) * s)) := by
  unfold offP
  rw [List.range_succ, List.map_append, List.map_append]
  exact atI_last _ _
theorem offsets_eq (l : List Nat) (hl : l.length ≤ 1000000) (ha : Asc l) (s : Int) : F_offsets [tS l, .int s] = some (.list ((offV l s).map .int)) := by
  have step : ∀ (acc : List Int) (a : Int) (c : Nat), c < 128 → acc.length ≤ 1000001 → atI (acc.map PyData.int) (-1) = some (.int a) → L_offsets_1 [.bor (tS l), .bor (.int s), .own (.list (acc.map .int)), .val (tS [c])] = some (.nx [.bor (tS l), .bor (.int s), .own (.list ((acc ++ [a + uV c * s]).map .int)), .val (tS [c])]) := by
    intro acc a c hc hl h
    have lt : acc.length < sizeLine := by rw [sizeLine_eq]; omega
    simp [L_offsets_1, h, advance_eq c hc s, lt]
  have key := for_all (ds := l.map fun c => tS [c]) (g := gV 3) (b := L_offsets_1) (ρ := [.bor (tS l), .bor (.int s), .own (.list ((offP l s 0).map .int)), .un])
    (fun i ρ => ∃ s3, ρ = [.bor (tS l), .bor (.int s), .own (.list ((offP l s i).map .int)), s3]) ⟨.un, rfl⟩ (by
    rintro i dd ρ hd ⟨s3, rfl⟩
    rw [List.getElem?_map] at hd
    obtain ⟨c, hc, rfl⟩ := map_some hd
    have hi := (List.getElem?_eq_some_iff.mp hc).1
    have hc' := ha c (List.mem_of_getElem? hc)
    have e : sumU (l.take (i + 1)) * s = sumU (l.take i) * s + uV c * s := by
      rw [List.take_add_one, hc, sumU_app, Int.add_mul]
      simp [sumU]
    refine ⟨_, _, rfl, .inl (step _ _ c hc' (by unfold offP; simp; omega) (offP_last l s i)), ⟨_, by rw [offP_s, e]⟩⟩)
  obtain ⟨ρ', e, s3, rfl⟩ := key
  rw [List.length_map] at e
  refine box_rt rfl ?_
  unfold B_offsets
  rw [seq_nx (ρ' := [.bor (tS l), .bor (.int s), .own (.list ((offP l s 0).map .int)), .un]) (by simp [size_le, offP, sumU])]
  rw [seq_nx ((sFor_eq (ds := l.map fun c => tS [c]) (by simp [tItems])).trans e)]
  simp [offV, offP]

/-! ### paragraphs -/
def spN (acc : List Nat) : List Nat → List (List Nat)
  | [] => [acc]
  | c :: r => if c = 10 then acc :: spN [] r else spN (acc ++ [c]) r
theorem spl_spN : ∀ (l acc : List Nat), TL.spl [10] 0 acc l = spN acc l
  | [], acc => rfl
  | c :: r, acc => by
    have hp : TL.pre [10] (c :: r) = decide (c = 10) := by
      unfold TL.pre
      simp
      rfl
    show (if TL.pre [10] (c :: r) = true then acc :: TL.spl [10] ([10].length - 1) [] r else TL.spl [10] 0 (acc ++ [c]) r) = _
    unfold spN
    by_cases h : c = 10
    · rw [if_pos (by rw [hp]; exact decide_eq_true h), if_pos h]
      congr 1
      exact spl_spN r []
    · rw [if_neg (by rw [hp, decide_eq_false h]; exact Bool.false_ne_true), if_neg h]
      exact spl_spN r (acc ++ [c])
def jn : List (List Nat) → List Nat
  | [] => []
  | [p] => p
  | p :: q :: r => p ++ 10 :: jn (q :: r)
theorem spN_ne : ∀ (l acc : List Nat), spN acc l ≠ []
  | [], _ => by simp [spN]
  | c :: r, acc => by
    unfold spN
    split
    · simp
    · exact spN_ne r _
theorem spN_jn : ∀ (l acc : List Nat), jn (spN acc l) = acc ++ l
  | [], acc => by simp [spN, jn]
  | c :: r, acc => by
    unfold spN
    by_cases h : c = 10
    · rw [if_pos h]
      have ih := spN_jn r []
      cases e : spN [] r with
      | nil => exact absurd e (spN_ne r [])
      | cons p ps =>
        rw [e] at ih
        rw [jn, ih, h]; rfl
    · rw [if_neg h, spN_jn r (acc ++ [c])]; simp
theorem spN_free : ∀ (l acc : List Nat), 10 ∉ acc → ∀ p ∈ spN acc l, 10 ∉ p
  | [], acc, h, p, hp => by
    rw [spN, List.mem_singleton] at hp
    rw [hp]; exact h
  | c :: r, acc, h, p, hp => by
    unfold spN at hp
    by_cases hc : c = 10
    · rw [if_pos hc] at hp
      rcases List.mem_cons.mp hp with rfl | hp
      · exact h
      · exact spN_free r [] (by simp) p hp
    · rw [if_neg hc] at hp
      exact spN_free r (acc ++ [c]) (by simp [h]; omega) p hp
def rowsV : Nat → List (List Nat) → List (Nat × Nat)
  | _, [] => []
  | s, p :: ps => (s, s + p.length) :: rowsV (s + p.length + 1) ps
def encP (r : Nat × Nat) : PyData := .tuple [.int (r.1 : Nat), .int (r.2 : Nat)]
theorem rowsV_len : ∀ (s : Nat) (ps : List (List Nat)), (rowsV s ps).length = ps.length
  | _, [] => rfl
  | s, p :: ps => by rw [rowsV, List.length_cons, rowsV_len, List.length_cons]
theorem split_tS (T : List Nat) (hl : T.length ≤ 1000000) : oSplit (tS T) (tS [10]) = some (.list ((spN [] T).map tS)) := by
  unfold tS oSplit
  simp only []
  rw [if_pos ⟨by rw [tLen1]; rfl, by rw [tLen1, sizeLine_eq]; omega⟩]
  have : Txt.split (⟨T.toArray⟩ : Str) ⟨[10].toArray⟩ = (TL.spl [10] 0 [] T).map SX.S := SX.split_S (by simp) (by decide)
  rw [this, spl_spN, List.map_map]
  rfl
theorem paraGo (S0 : PyData) : ∀ (ps : List (List Nat)) (acc : List PyData) (s : Nat) (s3 : Slot), acc.length + ps.length ≤ 1000000 → (∀ p ∈ ps, p.length ≤ 1000000) → ∃ s2 s3', forGo (gV 3) L_paragraphs_1 (ps.map tS) [.bor S0, .own (.list acc), .val (.int (s : Nat)), s3] = some (.nx [.bor S0, .own (.list (acc ++ (rowsV s ps).map encP)), s2, s3'])
  | [], acc, s, s3, _, _ => ⟨_, s3, by simp [forGo, rowsV]; rfl⟩
  | p :: ps, acc, s, s3, h, hp => by
    have lp := hp p List.mem_cons_self
    rw [List.length_cons] at h
    obtain ⟨a, b, e⟩ := paraGo S0 ps (acc ++ [encP (s, s + p.length)]) (s + p.length + 1) (.val (tS p)) (by simp; omega) fun q hq => hp q (List.mem_cons_of_mem _ hq)
    refine ⟨a, b, ?_⟩
    have lt : acc.length < sizeLine := by rw [sizeLine_eq]; omega
    have el := tLen p lp
    have st : L_paragraphs_1 [.bor S0, .own (.list acc), .val (.int (s : Nat)), .val (tS p)] = some (.nx [.bor S0, .own (.list (acc ++ [encP (s, s + p.length)])), .val (.int ((s + p.length + 1 : Nat) : Int)), .val (tS p)]) := by
      unfold L_paragraphs_1
      rw [seq_nx (ρ' := [.bor S0, .own (.list (acc ++ [encP (s, s + p.length)])), .val (.int (s : Nat)), .val (tS p)]) (by simp [el, lt, size_le, encP])]
      have : (s : Int) + ((p.length : Int) + 1) = ((s + p.length + 1 : Nat) : Int) := by omega
      simp [el, sAug, addI, this]
    rw [List.map_cons, forGo]
    show (L_paragraphs_1 [.bor S0, .own (.list acc), .val (.int (s : Nat)), .val (tS p)]).bind _ = _
    rw [st, Option.bind_some]
    simp only []
    rw [e, rowsV, List.map_cons, List.append_assoc]; rfl
theorem part_len : ∀ (ps : List (List Nat)) (p : List Nat), p ∈ ps → p.length ≤ (jn ps).length
  | [], _, h => by cases h
  | [q], p, h => by rw [List.mem_singleton.mp h]; exact Nat.le_refl _
  | q :: r :: ps, p, h => by
    rw [jn, List.length_append, List.length_cons]
    rcases List.mem_cons.mp h with rfl | h
    · omega
    · have := part_len (r :: ps) p h
      omega
theorem jn_len : ∀ ps : List (List Nat), ps.length ≤ (jn ps).length + 1
  | [] => by simp
  | [q] => by simp
  | q :: r :: ps => by
    have := jn_len (r :: ps)
    rw [jn, List.length_append, List.length_cons]
    simp only [List.length_cons] at this ⊢
    omega
theorem para_eq (T : List Nat) (hl : T.length ≤ 100000) : F_paragraphs [tS T] = some (.list ((rowsV 0 (spN [] T)).map encP)) := by
  refine box_rt rfl ?_
  show B_paragraphs [.bor (tS T), .un, .un, .un] = _
  have hj := spN_jn T []
  have l1 := jn_len (spN [] T)
  rw [hj, List.nil_append] at l1
  have l2 : ∀ p ∈ spN [] T, p.length ≤ 1000000 := fun p hp => by
    have := part_len _ p hp
    rw [hj, List.nil_append] at this
    omega
  obtain ⟨s2, s3, e⟩ := paraGo (tS T) (spN [] T) [] 0 .un (by simp; omega) l2
  have e : forGo (gV 3) L_paragraphs_1 ((spN [] T).map tS) [.bor (tS T), .own (.list []), .val (.int 0), .un] = _ := e
  unfold B_paragraphs
  rw [lit_nl]
  rw [seq_nx (ρ' := [.bor (tS T), .own (.list []), .un, .un]) (by simp [size_le])]
  rw [seq_nx (ρ' := [.bor (tS T), .own (.list []), .val (.int 0), .un]) (by simp)]
  rw [seq_nx ((sFor_eq (ds := (spN [] T).map tS) (by simp [split_tS T (by omega)])).trans e)]
  simp

theorem is_integer_i (i : Int) : F__law_is_integer [.int i] = some (.bool true) := by
  refine box_rt rfl ?_
  simp [B__law_is_integer]

theorem rows_bound : ∀ (ps : List (List Nat)) (s n : Nat), s + (jn ps).length = n → ∀ r ∈ rowsV s ps, r.1 ≤ r.2 ∧ r.2 ≤ n
  | [], _, _, _, r, h => by cases h
  | [p], s, n, hn, r, h => by
    rw [rowsV, rowsV, List.mem_singleton] at h
    subst h
    simp only [jn] at hn
    simp only []; omega
  | p :: q :: ps, s, n, hn, r, h => by
    rw [jn, List.length_append, List.length_cons] at hn
    rw [rowsV] at h
    rcases List.mem_cons.mp h with rfl | h
    · simp only []; omega
    · exact rows_bound (q :: ps) (s + p.length + 1) n (by omega) r h
theorem cut_mid (T : List Nat) (a b : Nat) (h1 : a ≤ b) (h2 : b ≤ T.length) : cutG T (some (a : Nat)) (some (b : Nat)) = (T.drop a).take (b - a) := by
  unfold cutG
  rw [HT.sIx_nat, HT.sIx_nat, show min a T.length = a by omega, show min b T.length = b by omega]

/-! ### words -/
def ltr (T : List Nat) (k : Nat) : Prop := T.getD k 0 ≠ 32 ∧ T.getD k 0 ≠ 10
instance (T : List Nat) (k : Nat) : Decidable (ltr T k) := by unfold ltr; exact inferInstance
theorem tAt (T : List Nat) (aT : Asc T) (lT : T.length ≤ 1000000) (k : Nat) (h : k < T.length) : oIx (tS T) (.int (k : Nat)) = some (tS [T.getD k 0]) ∧ T.getD k 0 < 128 := by
  have e : T.getD k 0 = T[k] := by rw [List.getD_eq_getElem?_getD, List.getElem?_eq_getElem h]; rfl
  refine ⟨?_, by rw [e]; exact aT _ (List.getElem_mem h)⟩
  rw [e]
  exact tIx T (k : Nat) _ lT (by rw [atI_pos (by omega), Int.toNat_natCast, List.getElem?_eq_getElem h])
def Chk (T : List Nat) (lo hi : Nat) : Nat → List (Nat × Nat) → Nat → Prop
  | a, [], e => e = a
  | a, (s, t) :: F, e => (a ≤ s ∧ s < t ∧ t ≤ hi ∧ (∀ x, a ≤ x → x < s → ¬ ltr T x) ∧ (∀ x, s ≤ x → x < t → ltr T x) ∧ (lo < s → ¬ ltr T (s - 1)) ∧ (t < hi → ¬ ltr T t)) ∧ Chk T lo hi t F e
theorem Chk.app {T : List Nat} {lo hi : Nat} : ∀ {F : List (Nat × Nat)} {a e s t : Nat}, Chk T lo hi a F e → (e ≤ s ∧ s < t ∧ t ≤ hi ∧ (∀ x, e ≤ x → x < s → ¬ ltr T x) ∧ (∀ x, s ≤ x → x < t → ltr T x) ∧ (lo < s → ¬ ltr T (s - 1)) ∧ (t < hi → ¬ ltr T t)) → Chk T lo hi a (F ++ [(s, t)]) t
  | [], a, e, s, t, h, h2 => by
    have : e = a := h
    subst this
    exact ⟨h2, rfl⟩
  | (s', t') :: F, a, e, s, t, h, h2 => ⟨h.1, Chk.app h.2 h2⟩
def encB : Option Nat → PyData
  | none => .none
  | some j => .int (j : Nat)
def WInv (T : List Nat) (lo hi k : Nat) (F : List (Nat × Nat)) (b : Option Nat) : Prop := ∃ e, Chk T lo hi lo F e ∧ lo ≤ e ∧ match b with
  | none => e ≤ k ∧ ∀ x, e ≤ x → x < k → ¬ ltr T x
  | some j => e ≤ j ∧ j < k ∧ (∀ x, e ≤ x → x < j → ¬ ltr T x) ∧ (∀ x, j ≤ x → x < k → ltr T x) ∧ (lo < j → ¬ ltr T (j - 1))
def wStep (T : List Nat) (k : Nat) (F : List (Nat × Nat)) (b : Option Nat) : List (Nat × Nat) × Option Nat :=
  if ltr T k then (F, some (b.getD k)) else match b with
    | none => (F, none)
    | some j => (F ++ [(j, k)], none)
theorem WInv.step {T : List Nat} {lo hi k : Nat} {F : List (Nat × Nat)} {b : Option Nat} (h : WInv T lo hi k F b) (hk : k < hi) (hlo : lo ≤ k) : WInv T lo hi (k + 1) (wStep T k F b).1 (wStep T k F b).2 := by
  obtain ⟨e, h1, h0, h2⟩ := h
  unfold wStep
  by_cases c : ltr T k
  · rw [if_pos c]
    cases b with
    | none =>
      obtain ⟨h3, h4⟩ := h2
      refine ⟨e, h1, h0, h3, by show k < k + 1; omega, h4, fun x (hx : k ≤ x) hx2 => ?_, fun (hj : lo < k) => ?_⟩
      · have : x = k := by omega
        subst this; exact c
      · by_cases z : e ≤ k - 1
        · exact h4 (k - 1) z (by omega)
        · have ek : e = k := by omega
          subst ek
          -- the last word ends here
          exact absurd c (by
            have : ∀ (F : List (Nat × Nat)) (a : Nat), a < e → Chk T lo hi a F e → ¬ ltr T e := by
              intro F
              induction F with
              | nil => intro a ha (hc : e = a); omega
              | cons p F ih =>
                intro a ha hc
                obtain ⟨s, t⟩ := p
                obtain ⟨⟨p1, p2, p3, p4, p5, p6, p7⟩, p8⟩ := hc
                by_cases y : t < e
                · exact ih t y p8
                · cases F with
                  | nil =>
                    have : e = t := p8
                    subst this
                    exact p7 hk
                  | cons q F =>
                    exfalso
                    obtain ⟨s', t'⟩ := q
                    have mono : ∀ (F : List (Nat × Nat)) (a e : Nat), Chk T lo hi a F e → a ≤ e := by
                      intro F
                      induction F with
                      | nil => intro a e (h : e = a); omega
                      | cons p F ih =>
                        intro a e h
                        obtain ⟨s, t⟩ := p
                        have := ih t e h.2
                        have := h.1.1
                        have := h.1.2.1
                        omega
                    have := mono F t' e p8.2
                    have := p8.1.1
                    have := p8.1.2.1
                    omega
            exact this F lo hj h1)
    | some j =>
      obtain ⟨h3, h4, h5, h6, h7⟩ := h2
      refine ⟨e, h1, h0, h3, by show j < k + 1; omega, h5, fun x hx hx2 => ?_, h7⟩
      by_cases z : x < k
      · exact h6 x hx z
      · have : x = k := by omega
        subst this; exact c
  · rw [if_neg c]
    cases b with
    | none =>
      obtain ⟨h3, h4⟩ := h2
      refine ⟨e, h1, h0, by omega, fun x hx hx2 => ?_⟩
      by_cases z : x < k
      · exact h4 x hx z
      · have : x = k := by omega
        subst this; exact c
    | some j =>
      obtain ⟨h3, h4, h5, h6, h7⟩ := h2
      refine ⟨k, h1.app ⟨h3, h4, by omega, h5, h6, h7, fun _ => c⟩, hlo, by omega, fun x hx hx2 => ?_⟩
      have : x = k := by omega
      subst this; exact c
theorem words_ex (T : List Nat) (aT : Asc T) (lT : T.length ≤ 4000) (lo hi : Nat) (h1 : lo ≤ hi) (h2 : hi ≤ T.length) : ∃ F e, F_words [tS T, .int (lo : Nat), .int (hi : Nat)] = some (.list (F.map encP)) ∧ Chk T lo hi lo F e ∧ e ≤ hi ∧ lo ≤ e ∧ (∀ x, e ≤ x → x < hi → ¬ ltr T x) ∧ F.length ≤ 4001 := by
  have key := for_all (ds := rangeD (lo : Nat) (hi - lo)) (g := gV 5) (b := L_words_1) (ρ := [.bor (tS T), .val (.int (lo : Nat)), .val (.int (hi : Nat)), .own (.list []), .val .none, .un])
    (fun i ρ => ∃ F b s5, ρ = [.bor (tS T), .val (.int (lo : Nat)), .val (.int (hi : Nat)), .own (.list (F.map encP)), .val (encB b), s5] ∧ WInv T lo hi (lo + i) F b ∧ F.length ≤ i) ⟨[], none, .un, rfl, ⟨lo, rfl, Nat.le_refl _, Nat.le_refl _, fun x hx hx2 => by omega⟩, Nat.le_refl _⟩ (by
    rintro i dd ρ hd ⟨F, b, s5, rfl, hw, hF⟩
    have hi' : i < hi - lo := by
      have := (List.getElem?_eq_some_iff.mp hd).1
      rw [rangeD_map, List.length_map, List.length_map, List.length_range] at this
      exact this
    have hdd : dd = .int ((lo + i : Nat) : Int) := by
      rw [rangeD_map, List.getElem?_map, List.getElem?_map, List.getElem?_range hi'] at hd
      have := Option.some.inj hd
      rw [← this]; simp
    subst hdd
    have hst := hw.step (k := lo + i) (by omega) (by omega)
    obtain ⟨a1, a2⟩ := tAt T aT (by omega) (lo + i) (by omega)
    have q1 := tEq (a := [T.getD (lo + i) 0]) (b := [32]) (Asc.one a2) (Asc.one (by decide))
    have q2 := tEq (a := [T.getD (lo + i) 0]) (b := [10]) (Asc.one a2) (Asc.one (by decide))
    have lt : F.length < sizeLine := by rw [sizeLine_eq]; omega
    refine ⟨_, [.bor (tS T), .val (.int (lo : Nat)), .val (.int (hi : Nat)), .own (.list ((wStep T (lo + i) F b).1.map encP)), .val (encB (wStep T (lo + i) F b).2), .val (.int ((lo + i : Nat) : Int))], rfl, .inl ?_, _, _, _, rfl, hst, ?_⟩
    · unfold wStep
      show L_words_1 [.bor (tS T), .val (.int (lo : Nat)), .val (.int (hi : Nat)), .own (.list (F.map encP)), .val (encB b), .val (.int ((lo + i : Nat) : Int))] = _
      unfold L_words_1
      rw [lit_sp, lit_nl]
      by_cases c : ltr T (lo + i)
      · rw [if_pos c]
        have c1 : ¬ T.getD (lo + i) 0 = 32 := c.1
        have c2 : ¬ T.getD (lo + i) 0 = 10 := c.2
        have q1 : oEq (tS [T.getD (lo + i) 0]) (tS [32]) = some (.bool false) := by rw [q1, decide_eq_false (by simpa using c1)]
        have q2 : oEq (tS [T.getD (lo + i) 0]) (tS [10]) = some (.bool false) := by rw [q2, decide_eq_false (by simpa using c2)]
        generalize tS [T.getD (lo + i) 0] = z at *
        cases b with
        | none =>
          simp only [Option.getD_none]
          have hb : encB (some (lo + i)) = .int ((lo + i : Nat) : Int) := rfl
          rw [hb]
          generalize ((lo + i : Nat) : Int) = u at *
          simp [a1, q1, q2, encB]
        | some j =>
          simp only [Option.getD_some]
          generalize ((lo + i : Nat) : Int) = u at *
          simp [a1, q1, q2, encB]
      · rw [if_neg c]
        have hq : bOr (bT (eOp oEq (eOp oIx (eB 0) (eB 5)) (eK (tS [32])))) (bT (eOp oEq (eOp oIx (eB 0) (eB 5)) (eK (tS [10])))) [.bor (tS T), .val (.int (lo : Nat)), .val (.int (hi : Nat)), .own (.list (F.map encP)), .val (encB b), .val (.int ((lo + i : Nat) : Int))] = some true := by
          by_cases c1 : T.getD (lo + i) 0 = 32
          · have q1 : oEq (tS [T.getD (lo + i) 0]) (tS [32]) = some (.bool true) := by rw [q1, decide_eq_true (by simpa using c1)]
            generalize tS [T.getD (lo + i) 0] = z at *
            generalize ((lo + i : Nat) : Int) = u at *
            simp [a1, q1]
          · have c2 : T.getD (lo + i) 0 = 10 := by
              by_cases c2 : T.getD (lo + i) 0 = 10
              · exact c2
              · exact absurd ⟨c1, c2⟩ c
            have q1 : oEq (tS [T.getD (lo + i) 0]) (tS [32]) = some (.bool false) := by rw [q1, decide_eq_false (by simpa using c1)]
            have q2 : oEq (tS [T.getD (lo + i) 0]) (tS [10]) = some (.bool true) := by rw [q2, decide_eq_true (by simpa using c2)]
            generalize tS [T.getD (lo + i) 0] = z at *
            generalize ((lo + i : Nat) : Int) = u at *
            simp [a1, q1, q2]
        rw [sIf_r, hq]
        simp only [Option.bind_some, if_true]
        cases b with
        | none => simp [encB]
        | some j => simp [encB, encP, lt, size_le]
    · unfold wStep
      split
      · show F.length ≤ i + 1
        omega
      · split
        · show F.length ≤ i + 1
          omega
        · simp; omega)
  obtain ⟨ρ', e, F, b, s5, rfl, hw, hF⟩ := key
  rw [rangeD_map, List.length_map, List.length_map, List.length_range] at hw hF
  rw [show lo + (hi - lo) = hi by omega] at hw
  have lt : F.length < sizeLine := by rw [sizeLine_eq]; omega
  obtain ⟨e0, k1, k0, k2⟩ := hw
  have hrun : ∀ F' : List (Nat × Nat), (match b with | none => F' = F | some j => F' = F ++ [(j, hi)]) → F_words [tS T, .int (lo : Nat), .int (hi : Nat)] = some (.list (F'.map encP)) := by
    intro F' hF'
    refine box_rt rfl ?_
    show B_words [.bor (tS T), .val (.int (lo : Nat)), .val (.int (hi : Nat)), .un, .un, .un] = _
    unfold B_words
    rw [seq_nx (ρ' := [.bor (tS T), .val (.int (lo : Nat)), .val (.int (hi : Nat)), .own (.list []), .un, .un]) (by simp [size_le])]
    rw [seq_nx (ρ' := [.bor (tS T), .val (.int (lo : Nat)), .val (.int (hi : Nat)), .own (.list []), .val .none, .un]) (by simp)]
    have er : rng2 [.int (lo : Nat), .int (hi : Nat)] = some (rangeD (lo : Nat) (hi - lo)) := by
      rw [rng2_r (by omega) (by omega) (by omega) (by omega)]
      congr 2; omega
    rw [seq_nx ((sFor_eq (sArgs_eq (ds := [.int (lo : Nat), .int (hi : Nat)]) (by simp) er)).trans e)]
    cases b with
    | none =>
      have hF' : F' = F := hF'
      rw [hF']
      simp [encB]
    | some j =>
      have hF' : F' = F ++ [(j, hi)] := hF'
      rw [hF']
      simp [encB, lt, size_le, encP]
  cases b with
  | none => exact ⟨F, e0, hrun F rfl, k1, k2.1, k0, k2.2, by omega⟩
  | some j =>
    obtain ⟨h3, h4, h5, h6, h7⟩ := k2
    refine ⟨F ++ [(j, hi)], hi, hrun _ rfl, k1.app ⟨h3, h4, Nat.le_refl _, h5, h6, h7, fun z => absurd z (Nat.lt_irrefl _)⟩, Nat.le_refl _, h1, fun x hx hx2 => by omega, by simp; omega⟩

/-! ### lines of a paragraph -/
theorem last_enc (A : List (Nat × Nat)) (p : Nat × Nat) : atI ((A ++ [p]).map encP) (-1) = some (encP p) := by
  rw [List.map_append]; exact atI_last _ _
theorem ix_last {α : Type} (A : List α) (p : α) : ixN (A ++ [p]).length (-1) = some A.length := by
  unfold ixN
  rw [if_neg (by decide), if_pos (by simp; omega)]
  congr 1; simp; omega
def bpS (O : List Int) (w : Int) (acc : List (Nat × Nat)) (p : Nat × Nat) : List (Nat × Nat) :=
  match acc.getLast? with
  | some q => if O.getD p.2 0 - O.getD q.1 0 ≤ w then acc.dropLast ++ [(q.1, p.2)] else acc ++ [p]
  | none => [p]
/-! ### greedy lines -/
def brk (O : List Int) (w : Int) : Nat × Nat → List (Nat × Nat) → List (Nat × Nat)
  | q, [] => [q]
  | q, p :: ps => if O.getD p.2 0 - O.getD q.1 0 ≤ w then brk O w (q.1, p.2) ps else q :: brk O w p ps
def brkP (O : List Int) (w : Int) (s : Nat) : List (Nat × Nat) → List (Nat × Nat)
  | [] => [(s, s)]
  | p :: ps => brk O w p ps
theorem encP_inj {p q : Nat × Nat} (h : encP p = encP q) : p = q := by
  obtain ⟨a, b⟩ := p
  obtain ⟨c, d⟩ := q
  unfold encP at h
  simp at h
  rw [show a = c by omega, show b = d by omega]
noncomputable def wds (T : List Nat) (lo hi : Nat) : List (Nat × Nat) := Classical.epsilon fun F => F_words [tS T, .int (lo : Nat), .int (hi : Nat)] = some (.list (F.map encP))
theorem wds_ok (T : List Nat) (aT : Asc T) (lT : T.length ≤ 4000) (lo hi : Nat) (h1 : lo ≤ hi) (h2 : hi ≤ T.length) : F_words [tS T, .int (lo : Nat), .int (hi : Nat)] = some (.list ((wds T lo hi).map encP)) ∧ (wds T lo hi).length ≤ 4001 ∧ ∃ e, Chk T lo hi lo (wds T lo hi) e ∧ e ≤ hi ∧ lo ≤ e ∧ ∀ x, e ≤ x → x < hi → ¬ ltr T x := by
  obtain ⟨F, e, c1, c2, c3, c4, c5, c6⟩ := words_ex T aT lT lo hi h1 h2
  have hs : F_words [tS T, .int (lo : Nat), .int (hi : Nat)] = some (.list ((wds T lo hi).map encP)) := Classical.epsilon_spec (p := fun F => F_words [tS T, .int (lo : Nat), .int (hi : Nat)] = some (.list (F.map encP))) ⟨F, c1⟩
  have : wds T lo hi = F := by
    rw [c1] at hs
    simp only [Option.some.injEq, PyData.list.injEq] at hs
    exact (map_inj (fun h => encP_inj h) hs).symm
  rw [this]
  exact ⟨c1, c6, e, c2, c3, c4, c5⟩
noncomputable def linesV (O : List Int) (w : Int) (T : List Nat) : List (Nat × Nat) := (rowsV 0 (spN [] T)).flatMap fun r => brkP O w r.1 (wds T r.1 r.2)
theorem Chk.bound {T : List Nat} {lo hi : Nat} : ∀ {F : List (Nat × Nat)} {a e : Nat}, Chk T lo hi a F e → ∀ p ∈ F, a ≤ p.1 ∧ p.1 < p.2 ∧ p.2 ≤ hi
  | [], _, _, _, p, hp => by cases hp
  | (s, t) :: F, a, e, h, p, hp => by
    rcases List.mem_cons.mp hp with rfl | hp
    · exact ⟨h.1.1, h.1.2.1, h.1.2.2.1⟩
    · have := Chk.bound h.2 p hp
      have := h.1.1
      have := h.1.2.1
      omega
theorem Chk.len {T : List Nat} {lo hi : Nat} : ∀ {F : List (Nat × Nat)} {a e : Nat}, Chk T lo hi a F e → a + F.length ≤ e
  | [], a, e, h => by
    have : e = a := h
    simp [this]
  | (s, t) :: F, a, e, h => by
    have := Chk.len h.2
    have := h.1.1
    have := h.1.2.1
    simp only [List.length_cons]; omega
def FM {α β : Type} (f : α → List β) (l : List α) : List β := l.flatMap f
/-! ### what lines are -/
def Gp0 (T : List Nat) (a s : Nat) : Prop := a ≤ s ∧ ∀ x, a ≤ x → x < s → T.getD x 0 = 32
def Gp1 (T : List Nat) (a s : Nat) : Prop := ∃ b, a ≤ b ∧ b < s ∧ T.getD b 0 = 10 ∧ Gp0 T a b ∧ Gp0 T (b + 1) s
def RowE (T : List Nat) (r : Nat × Nat) : Prop := r.1 = r.2 ∧ (r.1 = 0 ∨ T.getD (r.1 - 1) 0 = 10) ∧ ∃ e, r.1 ≤ e ∧ e ≤ T.length ∧ (e = T.length ∨ T.getD e 0 = 10) ∧ ∀ x, r.1 ≤ x → x < e → T.getD x 0 = 32
def RowW (T : List Nat) (O : List Int) (w : Int) (r : Nat × Nat) : Prop := r.1 < r.2 ∧ r.2 ≤ T.length ∧ ltr T r.1 ∧ ltr T (r.2 - 1) ∧ (∀ x, r.1 ≤ x → x < r.2 → T.getD x 0 ≠ 10) ∧ (r.1 = 0 ∨ ¬ ltr T (r.1 - 1)) ∧ (r.2 = T.length ∨ ¬ ltr T r.2) ∧ (O.getD r.2 0 - O.getD r.1 0 ≤ w ∨ ∀ x, r.1 ≤ x → x < r.2 → ltr T x)
def WEnd (T : List Nat) (s t : Nat) : Prop := s < t ∧ t ≤ T.length ∧ (∀ x, s ≤ x → x < t → ltr T x) ∧ (t = T.length ∨ ¬ ltr T t)
def RowG (T : List Nat) (O : List Int) (w : Int) (r : Nat × Nat) : Prop := RowE T r ∨ RowW T O w r
def Jn (T : List Nat) (O : List Int) (w : Int) (r r' : Nat × Nat) : Prop := Gp1 T r.2 r'.1 ∨ (Gp0 T r.2 r'.1 ∧ r.1 < r.2 ∧ r'.1 < r'.2 ∧ ∃ t, WEnd T r'.1 t ∧ w < O.getD t 0 - O.getD r.1 0)
def Lns (T : List Nat) (O : List Int) (w : Int) (hi : Nat) : Nat × Nat → List (Nat × Nat) → Prop
  | r, [] => RowG T O w r ∧ Gp0 T r.2 hi
  | r, r' :: R => RowG T O w r ∧ Jn T O w r r' ∧ Lns T O w hi r' R
theorem Gp0.app {T : List Nat} {a b c : Nat} (h : Gp0 T a b) (h2 : Gp0 T b c) : Gp0 T a c := ⟨Nat.le_trans h.1 h2.1, fun x h3 h4 => if z : x < b then h.2 x h3 z else h2.2 x (by omega) h4⟩
theorem Lns.app {T : List Nat} {O : List Int} {w : Int} {b hi : Nat} {r : Nat × Nat} {R : List (Nat × Nat)} (hb : T.getD b 0 = 10) (hg : Gp0 T (b + 1) r.1) (h2 : Lns T O w hi r R) : ∀ {A : List (Nat × Nat)} {q : Nat × Nat}, Lns T O w b q A → Lns T O w hi q (A ++ r :: R)
  | [], q, h => ⟨h.1, .inl ⟨b, h.2.1, hg.1, hb, h.2, hg⟩, h2⟩
  | q' :: A, q, h => ⟨h.1, h.2.1, Lns.app hb hg h2 h.2.2⟩
def Par (T : List Nat) : Nat → List (Nat × Nat) → Prop
  | _, [] => False
  | s, [r] => r.1 = s ∧ r.2 = T.length ∧ r.1 ≤ r.2 ∧ ∀ x, r.1 ≤ x → x < r.2 → T.getD x 0 ≠ 10
  | s, r :: r' :: R => r.1 = s ∧ r.1 ≤ r.2 ∧ r.2 < T.length ∧ T.getD r.2 0 = 10 ∧ (∀ x, r.1 ≤ x → x < r.2 → T.getD x 0 ≠ 10) ∧ Par T (r.2 + 1) (r' :: R)
theorem Lns.row {T : List Nat} {O : List Int} {w : Int} {hi : Nat} : ∀ {R : List (Nat × Nat)} {r : Nat × Nat}, Lns T O w hi r R → ∀ x ∈ r :: R, RowG T O w x
  | [], r, h, x, hx => by rw [List.mem_singleton.mp hx]; exact h.1
  | r' :: R, r, h, x, hx => by
    rcases List.mem_cons.mp hx with rfl | hx
    · exact h.1
    · exact Lns.row h.2.2 x hx
theorem RowG.le {T : List Nat} {O : List Int} {w : Int} {r : Nat × Nat} (h : RowG T O w r) : r.1 ≤ r.2 ∧ r.2 ≤ T.length := by
  rcases h with ⟨h1, h2, e, h3, h4, h5⟩ | h
  · omega
  · have := h.1
    have := h.2.1
    omega
theorem Jn.lt {T : List Nat} {O : List Int} {w : Int} {r r' : Nat × Nat} (h : Jn T O w r r') (h2 : r.1 ≤ r.2) : r.1 < r'.1 ∧ r.2 ≤ r'.1 := by
  rcases h with ⟨b, h3, h4, _⟩ | ⟨h3, h4, _⟩
  · omega
  · have := h3.1
    omega
theorem ext_eq (l : List Nat) (hl : l.length ≤ 4000) (ha : Asc l) (s : Int) : F__law_extent [tS l, .int s] = some (.int (sumU l * s)) := by
  refine box_rt rfl ?_
  show B__law_extent [.bor (tS l), .val (.int s), .un] = _
  have e1 : lcGo (gV 2) bYes (eCall F__law_advance (aCons (eB 2) (aCons (eV 1) aNil))) [.bor (tS l), .val (.int s), .un] (l.map fun c => tS [c]) = some ((l.map fun c => uV c * s).map .int) := by
    have := lcGo_filter (ρ := [.bor (tS l), .val (.int s), .un]) (g := gV 2) (t := bYes) (e := eCall F__law_advance (aCons (eB 2) (aCons (eV 1) aNil))) (fun c : Nat => tS [c]) (fun c : Nat => PyData.int (uV c * s)) (fun _ => true) l fun c hc => ⟨_, rfl, rfl, fun _ => by simp [lawadv_eq c (ha c hc) s]⟩
    rw [this, List.map_map]
    congr 2
    exact List.filter_eq_self.mpr fun _ _ => rfl
  have e2 : (l.map fun c => uV c * s).sum = sumU l * s := by
    unfold sumU
    clear e1 hl ha
    induction l with
    | nil => simp
    | cons c r ih => simp only [List.map_cons, List.sum_cons, ih, Int.add_mul]
  unfold B__law_extent
  rw [sRet_r, eCall_r, aCons_r, eLc_eq (ds := l.map fun c => tS [c]) (by simp [tItems]) e1 (by rw [List.length_map, List.length_map]; omega)]
  simp only [aNil_r, Option.bind_some, cSum_i, e2]
/-! ### the extent of a part -/
theorem cut_ext (T : List Nat) (lT : T.length ≤ 4000) (aT : Asc T) (s : Int) (a b : Nat) (h1 : a ≤ b) (h2 : b ≤ T.length) : F__law_extent [tS (cutG T (some (a : Nat)) (some (b : Nat))), .int s] = some (.int ((offV T s).getD b 0 - (offV T s).getD a 0)) := by
  have hc := cutG_len T (i := (a : Int)) (j := (b : Int)) (by omega) (by omega)
  rw [ext_eq _ (by omega) (aT.cut _ _) s, cut_mid T a b h1 h2, List.getD_eq_getElem?_getD, List.getD_eq_getElem?_getD, offV_get T s b h2, offV_get T s a (by omega)]
  congr 2
  show _ = sumU (T.take b) * s - sumU (T.take a) * s
  have : T.take b = T.take a ++ (T.drop a).take (b - a) := by
    have := List.take_add (l := T) (i := a) (j := b - a)
    rw [show a + (b - a) = b by omega] at this
    exact this
  rw [this, sumU_app, Int.add_mul]; omega

/-! ### rows of a room, words, and their extents -/
def ext (O : List Int) (p : Nat × Nat) : Int := O.getD p.2 0 - O.getD p.1 0
def Mon (O : List Int) (n : Nat) : Prop := ∀ x y, x ≤ y → y ≤ n → O.getD x 0 ≤ O.getD y 0
def Ch (n : Nat) : Nat → List (Nat × Nat) → Prop
  | a, [] => a ≤ n
  | a, p :: F => a ≤ p.1 ∧ p.1 < p.2 ∧ p.2 ≤ n ∧ Ch n p.2 F
def lastE : Nat × Nat → List (Nat × Nat) → Nat
  | q, [] => q.2
  | _, p :: ps => lastE p ps
theorem Ch.le {n : Nat} : ∀ {F : List (Nat × Nat)} {a : Nat}, Ch n a F → a ≤ n
  | [], _, h => h
  | _ :: _, _, h => by have := h.1; have := h.2.1; have := h.2.2.1; omega
def mxS (O : List Int) (m : Int) (p : Nat × Nat) : Int := max m (ext O p)
def whE (O : List Int) : List (Nat × Nat) → Option Int
  | [] => none
  | q :: ps => some (O.getD (lastE q ps) 0 - O.getD q.1 0)
def msS (O : List Int) (a : Int × Int) (ws : List (Nat × Nat)) : Int × Int := (ws.foldl (mxS O) a.1, match whE O ws with | some x => max a.2 x | none => a.2)
/-! ### text_measures -/
noncomputable def Wss (T : List Nat) : List (List (Nat × Nat)) := (rowsV 0 (spN [] T)).map fun r => wds T r.1 r.2
noncomputable def meas (T : List Nat) (O : List Int) : Int × Int := (Wss T).foldl (msS O) (0, 0)
theorem oix_O (O : List Int) (k : Nat) (h : k < O.length) : oIx (.list (O.map .int)) (.int (k : Nat)) = some (.int (O.getD k 0)) := by
  show atI (O.map PyData.int) (k : Nat) = _
  rw [atI_pos (by omega), Int.toNat_natCast, List.getElem?_map, List.getD_eq_getElem?_getD, List.getElem?_eq_getElem h]; rfl
/-! ### the pure law -/
theorem Chk.ch {T : List Nat} {lo hi n : Nat} (hn : hi ≤ n) : ∀ {F : List (Nat × Nat)} {a e : Nat}, Chk T lo hi a F e → e ≤ n → Ch n a F
  | [], a, e, h, h2 => by
    have : e = a := h
    show a ≤ n
    omega
  | (s, t) :: F, a, e, h, h2 => ⟨h.1.1, h.1.2.1, by have := h.1.2.2.1; show t ≤ n; omega, Chk.ch hn h.2 h2⟩
structure Ws (T : List Nat) (O : List Int) (r : Nat × Nat) : Prop where
  le : r.1 ≤ r.2
  len : r.2 ≤ T.length
  ch : Ch T.length r.1 (wds T r.1 r.2)
  pos : ∀ p ∈ wds T r.1 r.2, 0 < ext O p
  full : ∀ x, r.1 ≤ x → x < r.2 → ltr T x → wds T r.1 r.2 ≠ []
  ltr : ∀ p ∈ wds T r.1 r.2, ∃ x, x < T.length ∧ ltr T x
section
variable {T : List Nat} {s : Int} (aT : Asc T) (lT : T.length ≤ 4000) (hs : 1 ≤ s)
end


theorem mSqN {f g : MS} {ρ ρ' : Rho} {w w' : Wd} {o : Option (OW × Wd)} (h : f ρ w = some (.nx ρ', w')) (h2 : g ρ' w' = o) : mSeq f g ρ w = o := by
  unfold mSeq; rw [h]; exact h2

structure Un where
  kd : Nat
  c : Int
  a : Int
  b : Int
  w : Int
  sp : Int
structure Pc where
  c : Int
  a : Int
  b : Int
  l : Int
  w : Int
def kdU (k : Nat) : Str := if k = 0 then "word" else if k = 1 then "break" else "box"
def encU (u : Un) : PyData := .tuple [.str (kdU u.kd), .int u.c, .int u.a, .int u.b, .int u.w, .int u.sp]
def encPc (p : Pc) : PyData := .tuple [.int p.c, .int p.a, .int p.b, .int p.l, .int p.w]
def encRm : Option Int → PyData
  | none => .none
  | some r => .int r
def over (rm : Option Int) (x : Int) : Bool := match rm with
  | none => false
  | some r => decide (r < x)
def lwP (l : List Pc) : Int := match l.getLast? with
  | none => 0
  | some p => p.l + p.w
def onP (u : Un) (p : Pc) : Bool := decide (u.kd = 0) && decide (p.c = u.c)
def leftP (gap : Int) (u : Un) (p : Pc) : Int := p.l + p.w + (if onP u p = true then u.sp else gap)
def addP (gap : Int) (u : Un) (l : List Pc) : List Pc := match l.getLast? with
  | none => [⟨u.c, u.a, u.b, 0, u.w⟩]
  | some p => if onP u p = true then l.dropLast ++ [⟨u.c, p.a, u.b, p.l, leftP gap u p + u.w - p.l⟩] else l ++ [⟨u.c, u.a, u.b, leftP gap u p, u.w⟩]
def cutP (rm : Option Int) (gap : Int) (u : Un) (l : List Pc) : Bool := match l.getLast? with
  | none => false
  | some p => over rm (leftP gap u p + u.w)
def stpP (rm : Option Int) (gap : Int) (s : List (List Pc) × List Pc) (u : Un) : List (List Pc) × List Pc :=
  if u.kd = 1 then (s.1 ++ [if s.2 = [] then [⟨u.c, u.a, u.b, 0, 0⟩] else s.2], [])
  else if cutP rm gap u s.2 = true then (s.1 ++ [s.2], [⟨u.c, u.a, u.b, 0, u.w⟩]) else (s.1, addP gap u s.2)
def setP (rm : Option Int) (gap : Int) (us : List Un) : List (List Pc) :=
  if (us.foldl (stpP rm gap) ([], [])).2 = [] then (us.foldl (stpP rm gap) ([], [])).1 else (us.foldl (stpP rm gap) ([], [])).1 ++ [(us.foldl (stpP rm gap) ([], [])).2]
def encL (l : List Pc) : PyData := .list (l.map encPc)
theorem kd_q (k : Nat) : oEq (.str (kdU k)) (.str "break") = some (.bool (decide (k = 1))) ∧ oEq (.str (kdU k)) (.str "word") = some (.bool (decide (k = 0))) := by
  unfold kdU
  by_cases h0 : k = 0
  · subst h0
    exact ⟨oEq_s (by decide +kernel) (by decide +kernel), oEq_self (by kernel_rfl)⟩
  · rw [if_neg h0]
    by_cases h1 : k = 1
    · subst h1
      exact ⟨oEq_self (by kernel_rfl), oEq_s (by decide +kernel) (by decide +kernel)⟩
    · rw [if_neg h1, decide_eq_false h0, decide_eq_false h1]
      exact ⟨oEq_s (by decide +kernel) (by decide +kernel), oEq_s (by decide +kernel) (by decide +kernel)⟩
theorem lw_eq (l : List Pc) (hl : l.length ≤ 100000) : F_line_width [encL l] = some (.int (lwP l)) := by
  refine box_rt rfl ?_
  show B_line_width [.bor (encL l)] = _
  unfold B_line_width encL
  rcases List.eq_nil_or_concat l with rfl | ⟨A, p, rfl⟩
  · push_cast only [List.map_nil]
    rfl
  · rw [List.concat_eq_append]
    have g := atI_last (A.map encPc) (encPc p)
    have e : (A ++ [p]).map encPc = A.map encPc ++ [encPc p] := by rw [List.map_append]; rfl
    have ne : (!(A.map encPc ++ [encPc p]).isEmpty) = true := by simp
    have lw : lwP (A ++ [p]) = p.l + p.w := by unfold lwP; rw [List.getLast?_concat]
    rw [e, lw]
    have ix : oIx (.list (A.map encPc ++ [encPc p])) (.int (-1)) = some (encPc p) := g
    have x3 : oIx (encPc p) (.int 3) = some (.int p.l) := rfl
    have x4 : oIx (encPc p) (.int 4) = some (.int p.w) := rfl
    have n1 : oNeg (.int 1) = some (.int (-1)) := rfl
    have t1 : truth (.list (A.map encPc ++ [encPc p])) = some true := by rw [truth_l, ne]
    generalize PyData.list (A.map encPc ++ [encPc p]) = LL at *
    generalize encPc p = EP at *
    push_cast only [t1, ix, x3, x4, n1]
theorem sqN {f g : SS} {ρ ρ' : Rho} {o : Option Out} (h : f ρ = some (.nx ρ')) (h2 : g ρ' = o) : sSeqn f g ρ = o := by rw [sSeqn_r, h]; exact h2
theorem sqIf_t {t : SB} {f g : SS} {ρ : Rho} (h : t ρ = some true) : sIf t f g ρ = f ρ := by rw [sIf_r, h]; rfl
theorem sqIf_f {t : SB} {f g : SS} {ρ : Rho} (h : t ρ = some false) : sIf t f g ρ = g ρ := by rw [sIf_r, h]; rfl
theorem stpP_len (rm : Option Int) (gap : Int) (s : List (List Pc) × List Pc) (u : Un) : (stpP rm gap s u).1.length ≤ s.1.length + 1 ∧ (stpP rm gap s u).2.length ≤ s.2.length + 1 := by
  unfold stpP
  split
  · exact ⟨by simp, by simp⟩
  · split
    · exact ⟨by simp, by simp⟩
    · refine ⟨by simp, ?_⟩
      unfold addP
      split
      · simp
      · split
        · simp [List.length_dropLast]
        · simp
theorem stpP_fl (rm : Option Int) (gap : Int) : ∀ (us : List Un) (s : List (List Pc) × List Pc), (us.foldl (stpP rm gap) s).1.length ≤ s.1.length + us.length ∧ (us.foldl (stpP rm gap) s).2.length ≤ s.2.length + us.length
  | [], s => ⟨Nat.le_refl _, Nat.le_refl _⟩
  | u :: us, s => by
    have h := stpP_len rm gap s u
    have ih := stpP_fl rm gap us (stpP rm gap s u)
    rw [List.foldl_cons, List.length_cons]
    omega


/-! ### units of a text -/
def spU (O : List Int) (la : Option Nat) (a : Nat) : Int := match la with
  | none => 0
  | some l => O.getD a 0 - O.getD l 0
noncomputable def wordU (c : Int) (O : List Int) : Option Nat → List (Nat × Nat) → List Un
  | _, [] => []
  | la, p :: ps => ⟨0, c, (p.1 : Nat), (p.2 : Nat), O.getD p.2 0 - O.getD p.1 0, spU O la p.1⟩ :: wordU c O (some p.2) ps
def brkU (c : Int) : Option Nat → List Un
  | none => []
  | some b => [⟨1, c, (b : Nat), (b : Nat), 0, 0⟩]
noncomputable def rowU (c : Int) (T : List Nat) (O : List Int) : Option Nat → List (Nat × Nat) → List Un
  | _, [] => []
  | be, r :: rs => brkU c be ++ (wordU c O none (wds T r.1 r.2) ++ rowU c T O (some r.1) rs)
noncomputable def txtU (c : Int) (T : List Nat) (s : Int) : List Un := rowU c T (offV T s) none (rowsV 0 (spN [] T))
def encO : Option Nat → PyData
  | none => .none
  | some n => .int (n : Nat)
theorem Chk.cnt {T : List Nat} {lo hi : Nat} : ∀ {F : List (Nat × Nat)} {a e : Nat}, Chk T lo hi a F e → F.length + a ≤ e
  | [], a, e, h => by
    unfold Chk at h
    first | (subst h; simp) | (obtain ⟨rfl⟩ := h; simp) | omega
  | p :: F, a, e, h => by
    unfold Chk at h
    have ih := Chk.cnt (F := F) (by first | exact h.2 | exact h.2.2 | exact h.2.2.2)
    have := h.1
    rw [List.length_cons]
    omega
theorem wordU_len (c : Int) (O : List Int) : ∀ (ps : List (Nat × Nat)) (la : Option Nat), (wordU c O la ps).length = ps.length
  | [], _ => rfl
  | p :: ps, la => by
    show (wordU c O (some p.2) ps).length + 1 = _
    rw [List.length_cons, wordU_len c O ps]
theorem rowU_len (c : Int) (T : List Nat) (aT : Asc T) (lT : T.length ≤ 4000) (O : List Int) : ∀ (R : List (Nat × Nat)) (be : Option Nat), (∀ r ∈ R, r.1 ≤ r.2 ∧ r.2 ≤ T.length) → (rowU c T O be R).length ≤ (R.map fun r => r.2 - r.1 + 1).sum
  | [], be, _ => Nat.le_refl _
  | r :: R, be, h => by
    obtain ⟨r1, r2⟩ := h r List.mem_cons_self
    obtain ⟨_, _, e0, c3, c4, c5, _⟩ := wds_ok T aT lT r.1 r.2 r1 r2
    have ih := rowU_len c T aT lT O R (some r.1) fun q hq => h q (List.mem_cons_of_mem _ hq)
    have hb : (brkU c be).length ≤ 1 := by cases be <;> simp [brkU]
    have := c3.cnt
    rw [rowU, List.length_append, List.length_append, wordU_len, List.map_cons, List.sum_cons]
    omega
theorem rowsV_sum : ∀ (ps : List (List Nat)) (s : Nat), ((rowsV s ps).map fun r => r.2 - r.1 + 1).sum = (ps.map fun p => p.length + 1).sum
  | [], s => rfl
  | p :: ps, s => by
    rw [rowsV, List.map_cons, List.sum_cons, rowsV_sum ps, List.map_cons, List.sum_cons]
    show (s + p.length - s + 1) + _ = _
    omega

theorem jn_sum : ∀ ps : List (List Nat), ps ≠ [] → (ps.map fun p => p.length + 1).sum = (jn ps).length + 1
  | [], h => absurd rfl h
  | [q], _ => by simp [jn]
  | q :: r :: ps, _ => by
    have ih := jn_sum (r :: ps) (by simp)
    rw [List.map_cons, List.sum_cons, ih]
    simp [jn]
    omega
theorem txtU_len (c : Int) (T : List Nat) (aT : Asc T) (lT : T.length ≤ 4000) (s : Int) : (txtU c T s).length ≤ T.length + 1 := by
  have hj := spN_jn T []
  rw [List.nil_append] at hj
  have hb := rows_bound (spN [] T) 0 T.length (by rw [hj]; omega)
  have h := rowU_len c T aT lT (offV T s) (rowsV 0 (spN [] T)) none hb
  rw [rowsV_sum] at h
  by_cases z : spN [] T = []
  · rw [z] at h
    have : (([] : List (List Nat)).map fun p => p.length + 1).sum = 0 := rfl
    rw [this] at h
    unfold txtU
    rw [z]
    exact Nat.le_trans h (Nat.zero_le _)
  · rw [jn_sum _ z, hj] at h
    exact h
def RTx (c : Int) (T S : PyData) (O : List Int) (F : List PyData) (s5 s6 s7 s8 s9 s10 s11 : Slot) : Rho := [.val (.int c), .bor T, .bor S, .val (.list (O.map .int)), .own (.list F), s5, s6, s7, s8, s9, s10, s11]
theorem tu_step (c : Int) (T S : PyData) (O : List Int) (F : List Un) (s5 s6 s7 s11 : Slot) (la : Option Nat) (p : Nat × Nat) (hp : p.1 < O.length ∧ p.2 < O.length) (hla : ∀ l, la = some l → l < O.length) (hF : F.length < 100000) :
    ∃ t11, L_text_units_1 (RTx c T S O (F.map encU) s5 s6 s7 (.val (encO la)) (.val (.int (p.1 : Nat))) (.val (.int (p.2 : Nat))) s11) = some (.nx (RTx c T S O ((F ++ [(⟨0, c, (p.1 : Nat), (p.2 : Nat), O.getD p.2 0 - O.getD p.1 0, spU O la p.1⟩ : Un)]).map encU) s5 s6 s7 (.val (encO (some p.2))) (.val (.int (p.1 : Nat))) (.val (.int (p.2 : Nat))) t11)) := by
  have g1 := oix_O O p.1 hp.1
  have g2 := oix_O O p.2 hp.2
  have lt : (F.map encU).length < sizeLine := by rw [List.length_map, sizeLine_eq]; omega
  have le6 : 6 ≤ sizeLine := size_le (by decide)
  have go : ∀ sp : Int, (F ++ [(⟨0, c, (p.1 : Nat), (p.2 : Nat), O.getD p.2 0 - O.getD p.1 0, sp⟩ : Un)]).map encU = F.map encU ++ [.tuple [.str "word", .int c, .int (p.1 : Nat), .int (p.2 : Nat), .int (O.getD p.2 0 - O.getD p.1 0), .int sp]] := fun sp => by rw [List.map_append]; rfl
  have e2 : encO (some p.2) = .int (p.2 : Nat) := rfl
  rw [e2]
  cases la with
  | none =>
    refine ⟨.val (.int 0), ?_⟩
    have z0 : spU O none p.1 = 0 := rfl
    rw [z0]
    have g0 : encO none = .none := rfl
    have is : oIsN .none .none = some (.bool true) := rfl
    rw [go, g0]
    unfold L_text_units_1 RTx
    generalize PyData.list (O.map .int) = OO at *
    generalize O.getD p.1 0 = x1 at *
    generalize O.getD p.2 0 = x2 at *
    generalize (p.1 : Int) = y1 at *
    generalize (p.2 : Int) = y2 at *
    generalize F.map encU = FF at *
    push_cast only [g1, g2, lt, le6, is, fApp_r]
  | some l =>
    have g3 := oix_O O l (hla l rfl)
    refine ⟨.val (.int (O.getD p.1 0 - O.getD l 0)), ?_⟩
    have z0 : spU O (some l) p.1 = O.getD p.1 0 - O.getD l 0 := rfl
    rw [z0]
    have g0 : encO (some l) = .int (l : Nat) := rfl
    have is : oIsN (.int (l : Nat)) .none = some (.bool false) := rfl
    rw [go, g0]
    unfold L_text_units_1 RTx
    generalize PyData.list (O.map .int) = OO at *
    generalize O.getD p.1 0 = x1 at *
    generalize O.getD p.2 0 = x2 at *
    generalize O.getD l 0 = x3 at *
    generalize (p.1 : Int) = y1 at *
    generalize (p.2 : Int) = y2 at *
    generalize (l : Int) = y3 at *
    generalize F.map encU = FF at *
    push_cast only [g1, g2, g3, lt, le6, is, fApp_r, Bool.false_eq_true, if_false]
theorem tu_go (c : Int) (T S : PyData) (O : List Int) (s5 s6 s7 : Slot) : ∀ (ps : List (Nat × Nat)) (F : List Un) (la : Option Nat) (s9 s10 s11 : Slot), (∀ p ∈ ps, p.1 < O.length ∧ p.2 < O.length) → (∀ l, la = some l → l < O.length) → F.length + ps.length < 100000 →
    ∃ t8 t9 t10 t11, forGo (gT 2 (gsCons (gV 9) (gsCons (gV 10) gsNil))) L_text_units_1 (ps.map encP) (RTx c T S O (F.map encU) s5 s6 s7 (.val (encO la)) s9 s10 s11) = some (.nx (RTx c T S O ((F ++ wordU c O la ps).map encU) s5 s6 s7 t8 t9 t10 t11))
  | [], F, la, s9, s10, s11, _, _, _ => ⟨_, s9, s10, s11, by
      have : wordU c O la [] = [] := rfl
      rw [this, List.append_nil]; rfl⟩
  | p :: ps, F, la, s9, s10, s11, h, hla, hl => by
    rw [List.length_cons] at hl
    obtain ⟨t11, e⟩ := tu_step c T S O F s5 s6 s7 s11 la p (h p List.mem_cons_self) hla (by omega)
    obtain ⟨u8, u9, u10, u11, e2⟩ := tu_go c T S O s5 s6 s7 ps (F ++ [⟨0, c, (p.1 : Nat), (p.2 : Nat), O.getD p.2 0 - O.getD p.1 0, spU O la p.1⟩]) (some p.2) (.val (.int (p.1 : Nat))) (.val (.int (p.2 : Nat))) t11 (fun q hq => h q (List.mem_cons_of_mem _ hq)) (fun l hl => by cases hl; exact (h p List.mem_cons_self).2) (by rw [List.length_append, List.length_singleton]; omega)
    refine ⟨u8, u9, u10, u11, ?_⟩
    have hw : wordU c O la (p :: ps) = ⟨0, c, (p.1 : Nat), (p.2 : Nat), O.getD p.2 0 - O.getD p.1 0, spU O la p.1⟩ :: wordU c O (some p.2) ps := rfl
    rw [List.append_assoc, List.singleton_append] at e2
    rw [hw, List.map_cons, forGo]
    have g : gT 2 (gsCons (gV 9) (gsCons (gV 10) gsNil)) (encP p) (RTx c T S O (F.map encU) s5 s6 s7 (.val (encO la)) s9 s10 s11) = some (RTx c T S O (F.map encU) s5 s6 s7 (.val (encO la)) (.val (.int (p.1 : Nat))) (.val (.int (p.2 : Nat))) s11) := rfl
    rw [g, Option.bind_some, e, Option.bind_some]
    exact e2
theorem tu_go2 (c : Int) (T : List Nat) (aT : Asc T) (lT : T.length ≤ 4000) (S : PyData) (O : List Int) (hO : O.length = T.length + 1) : ∀ (R : List (Nat × Nat)) (F : List Un) (be : Option Nat) (s6 s7 s8 s9 s10 s11 : Slot), (∀ r ∈ R, r.1 ≤ r.2 ∧ r.2 ≤ T.length) → F.length + (R.map fun r => r.2 - r.1 + 1).sum < 90000 →
    ∃ t5 t6 t7 t8 t9 t10 t11, forGo (gT 2 (gsCons (gV 6) (gsCons (gV 7) gsNil))) L_text_units_2 (R.map encP) (RTx c (tS T) S O (F.map encU) (.val (encO be)) s6 s7 s8 s9 s10 s11) = some (.nx (RTx c (tS T) S O ((F ++ rowU c T O be R).map encU) t5 t6 t7 t8 t9 t10 t11))
  | [], F, be, s6, s7, s8, s9, s10, s11, _, _ => ⟨_, s6, s7, s8, s9, s10, s11, by
      have : rowU c T O be [] = [] := rfl
      rw [this, List.append_nil]; rfl⟩
  | r :: R, F, be, s6, s7, s8, s9, s10, s11, h, hl => by
    obtain ⟨r1, r2⟩ := h r List.mem_cons_self
    obtain ⟨c1, c2, e0, c3, c4, c5, c6⟩ := wds_ok T aT lT r.1 r.2 r1 r2
    have cn := c3.cnt
    rw [List.map_cons, List.sum_cons] at hl
    have hb : (brkU c be).length ≤ 1 := by cases be <;> simp [brkU]
    have hbd : ∀ p ∈ wds T r.1 r.2, p.1 < O.length ∧ p.2 < O.length := fun p hp => by
      have := c3.bound p hp
      omega
    have hg : (gT 2 (gsCons (gV 6) (gsCons (gV 7) gsNil))) (encP r) (RTx c (tS T) S O (F.map encU) (.val (encO be)) s6 s7 s8 s9 s10 s11) = some (RTx c (tS T) S O (F.map encU) (.val (encO be)) (.val (.int (r.1 : Nat))) (.val (.int (r.2 : Nat))) s8 s9 s10 s11) := rfl
    obtain ⟨t8, t9, t10, t11, e1⟩ := tu_go c (tS T) S O (.val (encO (some r.1))) (.val (.int (r.1 : Nat))) (.val (.int (r.2 : Nat))) (wds T r.1 r.2) (F ++ brkU c be) none s9 s10 s11 hbd (fun l hl => by cases hl) (by rw [List.length_append]; omega)
    obtain ⟨u5, u6, u7, u8, u9, u10, u11, e2⟩ := tu_go2 c T aT lT S O hO R (F ++ brkU c be ++ wordU c O none (wds T r.1 r.2)) (some r.1) (.val (.int (r.1 : Nat))) (.val (.int (r.2 : Nat))) t8 t9 t10 t11 (fun q hq => h q (List.mem_cons_of_mem _ hq)) (by rw [List.length_append, List.length_append, wordU_len]; omega)
    refine ⟨u5, u6, u7, u8, u9, u10, u11, ?_⟩
    have hr : rowU c T O be (r :: R) = brkU c be ++ (wordU c O none (wds T r.1 r.2) ++ rowU c T O (some r.1) R) := rfl
    rw [hr, List.map_cons, forGo, hg, Option.bind_some]
    have s1 : sIf (bT (eOp oNotN (eB 5) (eK (.none)))) (sMut fApp 4 (aCons (eTup (aCons (eK (.str "break")) (aCons (eV 0) (aCons (eV 5) (aCons (eV 5) (aCons (eK (.int 0)) (aCons (eK (.int 0)) aNil))))))) aNil)) sNext (RTx c (tS T) S O (F.map encU) (.val (encO be)) (.val (.int (r.1 : Nat))) (.val (.int (r.2 : Nat))) s8 s9 s10 s11) = some (.nx (RTx c (tS T) S O ((F ++ brkU c be).map encU) (.val (encO be)) (.val (.int (r.1 : Nat))) (.val (.int (r.2 : Nat))) s8 s9 s10 s11)) := by
      have lt : (F.map encU).length < sizeLine := by rw [List.length_map, sizeLine_eq]; omega
      have le6 : 6 ≤ sizeLine := size_le (by decide)
      cases be with
      | none =>
        have e : F ++ brkU c none = F := List.append_nil _
        rw [e]
        have g0 : encO none = .none := rfl
        rw [g0]
        rw [sqIf_f (by unfold RTx; push_cast only [])]; rfl
      | some b =>
        have e : (F ++ brkU c (some b)).map encU = F.map encU ++ [.tuple [.str "break", .int c, .int (b : Nat), .int (b : Nat), .int 0, .int 0]] := by rw [List.map_append]; rfl
        rw [e]
        have g0 : encO (some b) = .int (b : Nat) := rfl
        rw [g0]
        generalize (b : Int) = b' at *
        generalize F.map encU = FF at *
        rw [sqIf_t (by unfold RTx; push_cast only [])]
        unfold RTx
        push_cast only [lt, le6, fApp_r]
    have s2 : L_text_units_2 (RTx c (tS T) S O (F.map encU) (.val (encO be)) (.val (.int (r.1 : Nat))) (.val (.int (r.2 : Nat))) s8 s9 s10 s11) = some (.nx (RTx c (tS T) S O ((F ++ brkU c be ++ wordU c O none (wds T r.1 r.2)).map encU) (.val (encO (some r.1))) (.val (.int (r.1 : Nat))) (.val (.int (r.2 : Nat))) t8 t9 t10 t11)) := by
      unfold L_text_units_2
      refine sqN s1 ?_
      refine sqN (ρ' := RTx c (tS T) S O ((F ++ brkU c be).map encU) (.val (encO (some r.1))) (.val (.int (r.1 : Nat))) (.val (.int (r.2 : Nat))) s8 s9 s10 s11) rfl ?_
      refine sqN (ρ' := RTx c (tS T) S O ((F ++ brkU c be).map encU) (.val (encO (some r.1))) (.val (.int (r.1 : Nat))) (.val (.int (r.2 : Nat))) (.val (encO none)) s9 s10 s11) rfl ?_
      refine (sFor_eq (ds := (wds T r.1 r.2).map encP) ?_).trans e1
      unfold RTx
      generalize (wds T r.1 r.2).map encP = W at *
      generalize (F ++ brkU c be).map encU = FF at *
      generalize (r.1 : Int) = u at *
      generalize (r.2 : Int) = v at *
      push_cast only [c1]
    rw [s2, Option.bind_some]
    simp only [List.append_assoc] at e2 ⊢
    exact e2
theorem txtU_eq (c : Int) (T : List Nat) (aT : Asc T) (lT : T.length ≤ 4000) (s : Int) : F_text_units [.int c, tS T, .int s] = some (.list ((txtU c T s).map encU)) := by
  have ho := offsets_eq T (by omega) aT s
  have hp := para_eq T (by omega)
  have hj := spN_jn T []
  rw [List.nil_append] at hj
  have hb := rows_bound (spN [] T) 0 T.length (by rw [hj]; omega)
  have hs : ((rowsV 0 (spN [] T)).map fun r => r.2 - r.1 + 1).sum ≤ T.length + 1 := by
    rw [rowsV_sum]
    by_cases z : spN [] T = []
    · rw [z]; exact Nat.zero_le _
    · rw [jn_sum _ z, hj]; exact Nat.le_refl _
  obtain ⟨y5, y6, y7, y8, y9, y10, y11, e⟩ := tu_go2 c T aT lT (.int s) (offV T s) (offV_len T s) (rowsV 0 (spN [] T)) [] none .un .un .un .un .un .un hb (by rw [List.length_nil]; omega)
  rw [List.nil_append] at e
  unfold txtU
  refine box_rt rfl ?_
  show B_text_units [.val (.int c), .bor (tS T), .bor (.int s), .un, .un, .un, .un, .un, .un, .un, .un, .un] = _
  unfold B_text_units
  generalize rowU c T (offV T s) none (rowsV 0 (spN [] T)) = RU at *
  generalize offV T s = O at *
  generalize rowsV 0 (spN [] T) = R at *
  refine sqN (ρ' := [.val (.int c), .bor (tS T), .bor (.int s), .val (.list (O.map .int)), .un, .un, .un, .un, .un, .un, .un, .un]) (by push_cast only [ho]) ?_
  refine sqN (ρ' := [.val (.int c), .bor (tS T), .bor (.int s), .val (.list (O.map .int)), .own (.list []), .un, .un, .un, .un, .un, .un, .un]) (by push_cast only [size_le]) ?_
  refine sqN (ρ' := RTx c (tS T) (.int s) O [] (.val (encO none)) .un .un .un .un .un .un) rfl ?_
  refine sqN ((sFor_eq (ds := R.map encP) (by unfold RTx; push_cast only [hp])).trans e) ?_
  unfold RTx
  push_cast only [sRetOwn_r]


theorem pickD (l : List PyData) {i : Int} (h0 : 0 ≤ i) (h1 : i < l.length) : ∃ v, v ∈ l ∧ oIx (.list l) (.int i) = some v := by
  refine ⟨l[i.toNat]'(by omega), List.getElem_mem _, ?_⟩
  rw [oIx_l, atI_pos h0, List.getElem?_eq_getElem (by omega)]
structure Frm (w w' : Wd) (l : List Nat) : Prop where
  len : w.length ≤ w'.length
  same : ∀ j, j < w.length → j ∉ l → w'[j]? = w[j]?
theorem Frm.refl {w : Wd} {l : List Nat} : Frm w w l := ⟨Nat.le_refl _, fun _ _ _ => rfl⟩
theorem Frm.mono {w w' : Wd} {l l' : List Nat} (F : Frm w w' l) (h : ∀ j ∈ l, j ∈ l') : Frm w w' l' := ⟨F.len, fun j h1 h2 => F.same j h1 fun z => h2 (h j z)⟩
theorem Frm.set {w : Wd} {j : Nat} {o : WO} : Frm w (w.set j o) [j] := ⟨by rw [List.length_set]; exact Nat.le_refl _, fun i _ h => List.getElem?_set_ne fun z => h (by rw [z]; exact List.mem_singleton.mpr rfl)⟩
theorem Frm.app {w z : Wd} {l : List Nat} : Frm w (w ++ z) l := ⟨by rw [List.length_append]; omega, fun j h _ => List.getElem?_append_left h⟩
theorem Frm.get {w w' : Wd} {l : List Nat} (F : Frm w w' l) {j : Nat} {o : WO} (h : w[j]? = some o) (hj : j ∉ l) : w'[j]? = some o := (F.same j (List.getElem?_eq_some_iff.mp h).1 hj).trans h
theorem Frm.trans {w w1 w2 : Wd} {l : List Nat} (a : Frm w w1 l) (b : Frm w1 w2 l) : Frm w w2 l := ⟨Nat.le_trans a.len b.len, fun j h1 h2 => (b.same j (by have := a.len; omega) h2).trans (a.same j h1 h2)⟩
def StA (w : Wd) (h0 h : Nat) : Prop := ∃ (cs : List Int) (a b : Int), w[h0]? = some (.lst (cs.map fun i => .d (.int i))) ∧ w[h]? = some (.lst [.r h0, .d (.int a), .d (.int b)]) ∧ 0 ≤ a
structure Sth (w w' : Wd) (h0 h : Nat) : Prop where
  len : w'.length = w.length
  same : ∀ j, j ≠ h0 → j ≠ h → w'[j]? = w[j]?
theorem Sth.refl {w : Wd} {h0 h : Nat} : Sth w w h0 h := ⟨rfl, fun _ _ _ => rfl⟩
theorem Sth.trans {w w1 w2 : Wd} {h0 h : Nat} (a : Sth w w1 h0 h) (b : Sth w1 w2 h0 h) : Sth w w2 h0 h := ⟨b.len.trans a.len, fun j h1 h2 => (b.same j h1 h2).trans (a.same j h1 h2)⟩
theorem next_ex {w : Wd} {h0 h : Nat} (hne : h0 ≠ h) (s : StA w h0 h) (m : Int) (hm : 0 < m) (hm2 : m < 18446744073709551616) : ∃ d w', F__law_next [.r h, .d (.int m)] w = some (.d (.int d), w') ∧ 0 ≤ d ∧ d < m ∧ StA w' h0 h ∧ Sth w w' h0 h := by
  obtain ⟨cs, a, b, e0, e1, ha⟩ := s
  have l0 := (List.getElem?_eq_some_iff.mp e0).1
  have l1 := (List.getElem?_eq_some_iff.mp e1).1
  obtain ⟨d, cs', a', b', e, h1, h2, h3⟩ := nextG hne l0 l1 cs a b ha m hm hm2
  rw [StW_id e0 e1] at e
  refine ⟨d, _, e, h1, h2, ⟨cs', a', b', StW_0 hne l0 .., StW_1 l1 .., h3⟩, ⟨by unfold StW; rw [List.length_set, List.length_set], fun j j0 j1 => ?_⟩⟩
  unfold StW
  rw [List.getElem?_set_ne (Ne.symm j1), List.getElem?_set_ne (Ne.symm j0)]
def partsL : List (List Nat) := [[97, 98], [105], [119, 105, 100, 101], [109, 109, 46], [120], [32], [32, 32], [10], [10, 10], [108, 111, 110, 103, 44, 119, 111, 114, 100], [87]]
def joinsL : List (List Nat) := [[], [32], [32], [10]]
theorem pickT (L : List (List Nat)) {i : Int} (h0 : 0 ≤ i) (h1 : i < L.length) : ∃ p ∈ L, oIx (.list (L.map tS)) (.int i) = some (tS p) := by
  obtain ⟨v, hv, e⟩ := pickD (L.map tS) h0 (by rw [List.length_map]; exact h1)
  obtain ⟨p, hp, rfl⟩ := List.mem_map.mp hv
  exact ⟨p, hp, e⟩
theorem partsL_ok : ∀ p ∈ partsL, p.length ≤ 9 ∧ Prt p := by
  have : ∀ p ∈ partsL, p.length ≤ 9 ∧ ∀ c ∈ p, PrC c := by decide
  exact this
theorem joinsL_ok : ∀ p ∈ joinsL, p.length ≤ 1 ∧ Prt p := by
  have : ∀ p ∈ joinsL, p.length ≤ 1 ∧ ∀ c ∈ p, PrC c := by decide
  exact this
theorem lit_parts : (PyData.list [.str "ab", .str "i", .str "wide", .str "mm.", .str "x", .str " ", .str "  ", .str "\n", .str "\n\n", .str "long,word", .str "W"]) = .list (partsL.map tS) := by kernel_rfl
theorem lit_joins : (PyData.list [.str "", .str " ", .str " ", .str "\n"]) = .list (joinsL.map tS) := by kernel_rfl
def dI (i : Int) : WV := .d (.int i)
theorem StA.frm {w w' : Wd} {l : List Nat} {h0 h : Nat} (s : StA w h0 h) (F : Frm w w' l) (a : h0 ∉ l) (b : h ∉ l) : StA w' h0 h := by
  obtain ⟨cs, x, y, e0, e1, e2⟩ := s
  exact ⟨cs, x, y, F.get e0 a, F.get e1 b, e2⟩
theorem Sth.frm {w w' : Wd} {h0 h : Nat} (s : Sth w w' h0 h) : Frm w w' [h0, h] := ⟨by rw [s.len]; exact Nat.le_refl _, fun j _ hj => s.same j (fun z => hj (by rw [z]; exact List.mem_cons_self)) (fun z => hj (by rw [z]; exact List.mem_cons_of_mem _ List.mem_cons_self))⟩
def signs1 : List Nat := [33, 34, 35, 36, 38, 39, 40, 41, 42, 43, 44, 45, 46, 47, 48, 49, 50, 51, 52, 53, 54, 55, 56, 57, 58, 59, 60, 61, 62, 63, 64, 65, 66, 67, 68, 69, 70, 71, 72, 73, 74, 75, 76, 77, 78, 79, 80, 81, 82, 83, 84, 85, 86, 87, 88, 89, 90, 91, 92, 93, 94, 95, 96]
def signs2 : List Nat := [97, 98, 99, 100, 101, 102, 103, 104, 105, 106, 107, 108, 109, 110, 111, 112, 113, 114, 115, 116, 117, 118, 119, 120, 121, 122, 123, 124, 125, 126]
theorem lit_signs1 : (PyData.str "!\"#$&'()*+,-./0123456789:;<=>?@ABCDEFGHIJKLMNOPQRSTUVWXYZ[\\]^_`") = tS signs1 := by kernel_rfl
theorem lit_signs2 : (PyData.str "abcdefghijklmnopqrstuvwxyz{|}~") = tS signs2 := by kernel_rfl
theorem signs_ok : ∀ c ∈ signs1 ++ signs2, PrC c := by decide +kernel
theorem lsign_ex {w : Wd} {h0 h : Nat} (hne : h0 ≠ h) (s : StA w h0 h) : ∃ c w', F__law_sign [.r h] w = some (.d (tS [c]), w') ∧ PrC c ∧ StA w' h0 h ∧ Sth w w' h0 h := by
  obtain ⟨d, w1, e1, a1, b1, s1, t1⟩ := next_ex hne s 93 (by decide) (by decide)
  have ll : (signs1 ++ signs2).length = 93 := by decide +kernel
  obtain ⟨c, hc, hx⟩ : ∃ c ∈ signs1 ++ signs2, oIx (tS (signs1 ++ signs2)) (.int d) = some (tS [c]) := by
    have hk : d.toNat < (signs1 ++ signs2).length := by rw [ll]; omega
    refine ⟨(signs1 ++ signs2)[d.toNat], List.getElem_mem hk, tIx _ _ _ (by rw [ll]; decide) ?_⟩
    rw [atI_pos a1]
    exact List.getElem?_eq_getElem hk
  refine ⟨c, w1, boxW_rt rfl ?_, signs_ok c hc, s1, t1⟩
  show B__law_sign [.st h, .un] w = _
  have ad := tAdd signs1 signs2 (by decide +kernel)
  have ln := tLen (signs1 ++ signs2) (by rw [ll]; decide)
  rw [ll] at ln
  have c1 := mCall_eq (Fn := F__law_next) (r := maQ (mVar 0) (maD (mL (eCall cLen (aCons (eB 1) aNil))) maNil)) (ρ := [.st h, .val (tS (signs1 ++ signs2))]) (w := w) (args := [.r h, .d (.int 93)]) (w1 := w) (by
    have mv : mVar 0 [.st h, .val (tS (signs1 ++ signs2))] w = some (.r h, w) := rfl
    generalize tS (signs1 ++ signs2) = SS at *
    push_cast [maQ_r, mv, ln]; rfl) e1
  unfold B__law_sign
  rw [lit_signs1, lit_signs2]
  generalize tS signs1 = A1 at *
  generalize tS signs2 = A2 at *
  refine mSqN (ρ' := [.st h, .val A1]) (w' := w) (mS_nx (by push_cast only [])) ?_
  generalize tS (signs1 ++ signs2) = A3 at *
  refine mSqN (ρ' := [.st h, .val A3]) (w' := w) (mS_nx (by push_cast only [ad])) ?_
  push_cast [c1, hx]
theorem lstrGo {h0 h : Nat} (hne : h0 ≠ h) : ∀ (ds : List PyData) {w : Wd} (s : StA w h0 h) (T : List Nat) (x3 : Slot), Prt T → T.length + 11 * ds.length ≤ 1000 → ∃ T' w' y3, mForGo (gV 3) L__law_string_1 ds [.st h, .val (.list (partsL.map tS)), .val (tS T), x3] w = some (.nx [.st h, .val (.list (partsL.map tS)), .val (tS T'), y3], w') ∧ T'.length ≤ T.length + 11 * ds.length ∧ Prt T' ∧ StA w' h0 h ∧ Sth w w' h0 h
  | [], w, s, T, x3, hT, _ => ⟨T, w, x3, rfl, by simp, hT, s, .refl⟩
  | d :: ds, w, s, T, x3, hT, hl => by
    rw [List.length_cons] at hl
    obtain ⟨d1, w1, e1, a1, b1, s1, t1⟩ := next_ex hne s 11 (by decide) (by decide)
    obtain ⟨d2, w2, e2, a2, b2, s2, t2⟩ := next_ex hne s1 4 (by decide) (by decide)
    obtain ⟨p, hp, ep⟩ := pickT partsL a1 (by show d1 < 11; omega)
    obtain ⟨q, hq, eq⟩ := pickT joinsL a2 (by show d2 < 4; omega)
    obtain ⟨lp, pp⟩ := partsL_ok p hp
    obtain ⟨lq, pq⟩ := joinsL_ok q hq
    obtain ⟨d3, w3, e3, a3, b3, s3, t3⟩ := next_ex hne s2 3 (by decide) (by decide)
    have c1 := mCall_eq (Fn := F__law_next) (r := maQ (mVar 0) (maD (mL (eK (.int 11))) maNil)) (ρ := [.st h, .val (.list (partsL.map tS)), .val (tS T), (.val d)]) (w := w) (args := [.r h, .d (.int 11)]) (w1 := w) rfl e1
    have c2 := mCall_eq (Fn := F__law_next) (r := maQ (mVar 0) (maD (mL (eK (.int 4))) maNil)) (ρ := [.st h, .val (.list (partsL.map tS)), .val (tS T), (.val d)]) (w := w1) (args := [.r h, .d (.int 4)]) (w1 := w1) rfl e2
    have ad1 := tAdd T p (by omega)
    have ad2 := tAdd (T ++ p) q (by rw [List.length_append]; omega)
    have le4 : 4 ≤ sizeLine := size_le (by decide)
    have lj := lit_joins
    have st1 : mSet 2 (mOp oAdd (mOp oAdd (mL (eB 2)) (mOp oIx (mL (eB 1)) (mCall F__law_next (maQ (mVar 0) (maD (mL (eK (.int 11))) maNil))))) (mOp oIx (mL (eLst (aCons (eK (.str "")) (aCons (eK (.str " ")) (aCons (eK (.str " ")) (aCons (eK (.str "\n")) aNil)))))) (mCall F__law_next (maQ (mVar 0) (maD (mL (eK (.int 4))) maNil))))) [.st h, .val (.list (partsL.map tS)), .val (tS T), (.val d)] w = some (.nx [.st h, .val (.list (partsL.map tS)), .val (tS (T ++ p ++ q)), (.val d)], w2) := by
      refine mSet_eq (k := 2) ?_ (by simp)
      generalize PyData.list (partsL.map tS) = PL at *
      generalize PyData.list (joinsL.map tS) = JL at *
      generalize tS T = TT at *
      push_cast [c1, c2, ep, eq, le4, lj, ad1, ad2]
    have c3 := mCall_eq (Fn := F__law_next) (r := maQ (mVar 0) (maD (mL (eK (.int 3))) maNil)) (ρ := [.st h, .val (.list (partsL.map tS)), .val (tS (T ++ p ++ q)), (.val d)]) (w := w2) (args := [.r h, .d (.int 3)]) (w1 := w2) rfl e3
    have cond : (mT (mOp oEq (mCall F__law_next (maQ (mVar 0) (maD (mL (eK (.int 3))) maNil))) (mL (eK (.int 0))))) [.st h, .val (.list (partsL.map tS)), .val (tS (T ++ p ++ q)), (.val d)] w2 = some (decide (d3 = 0), w3) := by
      have : oEq (.int d3) (.int 0) = some (.bool (decide (d3 = 0))) := oEq_i
      push_cast [c3, this]
    by_cases hz : d3 = 0
    · obtain ⟨c, w4, e4, pc, s4, t4⟩ := lsign_ex hne s3
      obtain ⟨T', w5, y3, e, h1, h2, h3, h4⟩ := lstrGo hne ds s4 (T ++ p ++ q ++ [c]) (.val d) ((((hT.app pp).app pq)).app (Prt.one pc)) (by rw [List.length_append, List.length_append, List.length_append, List.length_singleton]; omega)
      rw [List.length_append, List.length_append, List.length_append, List.length_singleton] at h1
      refine ⟨T', w5, y3, ?_, by rw [List.length_cons]; omega, h2, h3, ((t1.trans t2).trans (t3.trans t4)).trans h4⟩
      have ad3 := tAdd (T ++ p ++ q) [c] (by rw [List.length_append, List.length_append, List.length_singleton]; omega)
      have c4 := mCall_eq (Fn := F__law_sign) (r := maQ (mVar 0) maNil) (ρ := [.st h, .val (.list (partsL.map tS)), .val (tS (T ++ p ++ q)), (.val d)]) (w := w3) (args := [.r h]) (w1 := w3) rfl e4
      refine (mForGo_one (ρ1 := [.st h, .val (.list (partsL.map tS)), .val (tS T), (.val d)]) (ρ' := [.st h, .val (.list (partsL.map tS)), .val (tS (T ++ p ++ q ++ [c])), (.val d)]) (w1 := w4) rfl ?_).trans e
      unfold L__law_string_1
      refine mSqN st1 ((mIf_t (by rw [decide_eq_true hz] at cond; exact cond)).trans (mSet_eq (k := 2) ?_ (by simp)))
      generalize PyData.list (partsL.map tS) = PL at *
      generalize tS (T ++ p ++ q) = TT at *
      push_cast [c4, ad3]
    · obtain ⟨T', w5, y3, e, h1, h2, h3, h4⟩ := lstrGo hne ds s3 (T ++ p ++ q) (.val d) (((hT.app pp).app pq)) (by rw [List.length_append, List.length_append]; omega)
      rw [List.length_append, List.length_append] at h1
      refine ⟨T', w5, y3, ?_, by rw [List.length_cons]; omega, h2, h3, ((t1.trans t2).trans t3).trans h4⟩
      refine (mForGo_one (ρ1 := [.st h, .val (.list (partsL.map tS)), .val (tS T), (.val d)]) (ρ' := [.st h, .val (.list (partsL.map tS)), .val (tS (T ++ p ++ q)), (.val d)]) (w1 := w3) rfl ?_).trans e
      unfold L__law_string_1
      exact mSqN st1 ((mIf_f (by rw [decide_eq_false hz] at cond; exact cond)).trans rfl)
theorem lstr_ex {w : Wd} {h0 h : Nat} (hne : h0 ≠ h) (s : StA w h0 h) : ∃ T w', F__law_string [.r h] w = some (.d (tS T), w') ∧ T.length ≤ 132 ∧ Prt T ∧ StA w' h0 h ∧ Sth w w' h0 h := by
  obtain ⟨d1, w1, e1, a1, b1, s1, t1⟩ := next_ex hne s 5 (by decide) (by decide)
  obtain ⟨n, hn, en⟩ := pickI [0, 1, 3, 6, 12] a1 (by show d1 < 5; omega)
  simp only [List.map_cons, List.map_nil] at en
  have hn2 : 0 ≤ n ∧ n ≤ 12 := by simp at hn; omega
  obtain ⟨T, w2, y3, e, h1, h2, h3, h4⟩ := lstrGo hne (rangeD 0 n.toNat) s1 [] .un Prt.nil (by rw [rangeD_len]; simp; omega)
  rw [rangeD_len] at h1
  refine ⟨T, w2, boxW_rt rfl ?_, by simp at h1; omega, h2, h3, t1.trans h4⟩
  show B__law_string [.st h, .un, .un, .un] w = _
  have le11 : 11 ≤ sizeLine := size_le (by decide)
  have le5 : 5 ≤ sizeLine := size_le (by decide)
  have c1 := mCall_eq (Fn := F__law_next) (r := maQ (mVar 0) (maD (mL (eK (.int 5))) maNil)) (ρ := [.st h, .val (.list (partsL.map tS)), .val (tS []), .un]) (w := w) (args := [.r h, .d (.int 5)]) (w1 := w) rfl e1
  have en : oIx (.list [.int 0, .int 1, .int 3, .int 6, .int 12]) (.int d1) = some (.int n) := en
  unfold B__law_string
  rw [mseq_s (ρ' := [.st h, .val (.list (partsL.map tS)), .un, .un]) (by rw [← lit_parts]; push_cast only [le11])]
  rw [lit_no]
  rw [mseq_s (ρ' := [.st h, .val (.list (partsL.map tS)), .val (tS []), .un]) (by push_cast only [])]
  rw [mseq_nx ((mFor_eq (mArgsI_eq (l := [.d (.int n)]) (w1 := w1) (by
    generalize PyData.list (partsL.map tS) = PL at *
    generalize tS [] = E0 at *
    push_cast [c1, en, le5]) (rng1_r (by omega) (by omega)))).trans e)]
  rfl


theorem mForGo_ct {g : SG} {b : MS} {d : PyData} {ds : List PyData} {ρ ρ1 ρ' : Rho} {w w1 : Wd} (e1 : g d ρ = some ρ1) (e2 : b ρ1 w = some (.ct ρ', w1)) : mForGo g b (d :: ds) ρ w = mForGo g b ds ρ' w1 := by
  rw [mForGo, e1, Option.bind_some, e2]; rfl
theorem getl {w z : Wd} {j : Nat} {o : WO} (h : w[j]? = some o) : (w ++ z)[j]? = some o := by
  rw [List.getElem?_append_left (List.getElem?_eq_some_iff.mp h).1]; exact h
theorem get_l {w r : Wd} {x : WO} : (w ++ x :: r)[w.length]? = some x := by rw [List.getElem?_append_right (Nat.le_refl _), Nat.sub_self]; rfl
/-! ### set_lines over the world -/
def dP (p : Pc) : WV := .d (encPc p)
def LsW (W : Wd) : List Nat → List (List Pc) → Prop
  | [], [] => True
  | j :: js, l :: ls => W[j]? = some (.lst (l.map dP)) ∧ LsW W js ls
  | _, _ => False
theorem LsW.len {W : Wd} : ∀ {js : List Nat} {ls : List (List Pc)}, LsW W js ls → js.length = ls.length
  | [], [], _ => rfl
  | j :: js, l :: ls, h => congrArg (· + 1) h.2.len
  | [], _ :: _, h => h.elim
  | _ :: _, [], h => h.elim
theorem LsW.frm {W W' : Wd} {l0 : List Nat} (F : Frm W W' l0) : ∀ {js : List Nat} {ls : List (List Pc)}, LsW W js ls → (∀ j ∈ js, j ∉ l0) → LsW W' js ls
  | [], [], _, _ => True.intro
  | j :: js, l :: ls, h, hj => ⟨F.get h.1 (hj j List.mem_cons_self), h.2.frm F fun i hi => hj i (List.mem_cons_of_mem _ hi)⟩
  | [], _ :: _, h, _ => h.elim
  | _ :: _, [], h, _ => h.elim
theorem LsW.snoc {W : Wd} {j : Nat} {l : List Pc} (e : W[j]? = some (.lst (l.map dP))) : ∀ {js : List Nat} {ls : List (List Pc)}, LsW W js ls → LsW W (js ++ [j]) (ls ++ [l])
  | [], [], _ => ⟨e, True.intro⟩
  | i :: js, k :: ls, h => ⟨h.1, h.2.snoc e⟩
  | [], _ :: _, h => h.elim
  | _ :: _, [], h => h.elim
theorem LsW.lt {W : Wd} : ∀ {js : List Nat} {ls : List (List Pc)}, LsW W js ls → ∀ j ∈ js, j < W.length
  | i :: js, k :: ls, h, j, hj => by
    rcases List.mem_cons.mp hj with rfl | hj
    · exact (List.getElem?_eq_some_iff.mp h.1).1
    · exact h.2.lt j hj
  | [], _, _, _, hj => by cases hj
theorem undata_P : ∀ l : List Pc, undata (l.map dP) = some (l.map encPc)
  | [] => rfl
  | p :: l => by
    rw [List.map_cons, List.map_cons]
    show (undata (l.map dP)).map (encPc p :: ·) = _
    rw [undata_P l]; rfl
theorem rd_li {W : Wd} {j : Nat} {l : List Pc} (e : W[j]? = some (.lst (l.map dP))) : rdW W (.r j) = some (encL l) := by
  unfold rdW
  simp only [e]
  rw [undata_P]; rfl
theorem deepL_P (n : Nat) (W : Wd) : ∀ l : List Pc, deepL (deepW n W) (l.map dP) = some (l.map encPc)
  | [] => rfl
  | p :: l => by
    rw [List.map_cons, List.map_cons, deepL]
    have : deepW n W (dP p) = some (encPc p) := by unfold dP deepW; rfl
    rw [this, Option.bind_some, deepL_P n W l]; rfl
theorem deep_ls {W : Wd} : ∀ {js : List Nat} {ls : List (List Pc)}, LsW W js ls → deepL (deepW 2 W) (js.map .r) = some (ls.map encL)
  | [], [], _ => rfl
  | j :: js, l :: ls, h => by
    rw [List.map_cons, List.map_cons, deepL]
    have : deepW 2 W (.r j) = some (encL l) := by
      unfold deepW
      simp only [h.1]
      rw [deepL_P]; rfl
    rw [this, Option.bind_some, deep_ls h.2]; rfl
  | [], _ :: _, h => h.elim
  | _ :: _, [], h => h.elim
theorem deep_all {W : Wd} {h : Nat} {js : List Nat} {ls : List (List Pc)} (e : W[h]? = some (.lst (js.map .r))) (q : LsW W js ls) : deepW 3 W (.r h) = some (.list (ls.map encL)) := by
  unfold deepW
  simp only [e]
  rw [deep_ls q]; rfl
theorem set_last {α : Type} (a b : α) : ∀ L : List α, (L ++ [a]).set L.length b = L ++ [b]
  | [] => rfl
  | x :: L => by
    show x :: (L ++ [a]).set L.length b = _
    rw [set_last a b L]; rfl
structure SI (w W : Wd) (js : List Nat) (hl : Nat) (ls : List (List Pc)) (li : List Pc) : Prop where
  fr : Frm w W []
  hL : W[w.length]? = some (.lst (js.map .r))
  li : W[hl]? = some (.lst (li.map dP))
  gt : w.length < hl
  ls : LsW W js ls
  jg : ∀ j ∈ js, w.length < j ∧ j ≠ hl
theorem mAppW {fr : MR} {q : MQ} {ρ : Rho} {w w1 w2 : Wd} {h : Nat} {x : WV} {l0 l : List WV} (e : fr ρ w = some (h, w1)) (e1 : w1[h]? = some (.lst l0)) (e2 : q ρ w1 = some (x, w2)) (e3 : w2[h]? = some (.lst l)) (hl : l.length < sizeLine) : mExprQ (mMth lApp fr (maQ q maNil)) ρ w = some (.nx ρ, w2.set h (.lst (l ++ [x]))) := by
  unfold mExprQ
  rw [mMth_eq (args := [x]) (x := .d .none) e e1 (by rw [maQ_r, e2]; rfl) e3 (if_pos hl)]; rfl
theorem mFBL {Fn : List PyData → Option PyData} {w : Wd} {ρ : Rho} {j : Nat} {q : MQ} {d0 d : PyData} (e : q ρ w = some (.r j, w)) (rd : rdW w (.r j) = some d0) (hF : Fn [d0] = some d) : mFB Fn (maQ q maNil) ρ w = some (d, w) := by
  unfold mFB
  simp only [maQ_r, e, maNil_r, Option.map_some, Option.bind_some, rdAs, rd]
  show (Fn [d0]).map _ = _
  rw [hF]; rfl
def RSw (U Rm : PyData) (gap : Int) (h hl : Nat) (u : Un) (s11 s12 s13 : Slot) : Rho := [.bor U, .bor Rm, .val (.int gap), .st h, .st hl, .val (.str (kdU u.kd)), .val (.int u.c), .val (.int u.a), .val (.int u.b), .val (.int u.w), .val (.int u.sp), s11, s12, s13]
section
variable {w W : Wd} {js : List Nat} {hl : Nat} {ls : List (List Pc)} {li : List Pc}
theorem SI.cut (I : SI w W js hl ls li) : SI w (W.set w.length (WO.lst (js.map WV.r ++ [WV.r hl])) ++ [WO.lst []]) (js ++ [hl]) W.length (ls ++ [li]) [] := by
  have l0 := (List.getElem?_eq_some_iff.mp I.hL).1
  have l1 := (List.getElem?_eq_some_iff.mp I.li).1
  have gt := I.gt
  have F1 : Frm W (W.set w.length (WO.lst (js.map WV.r ++ [WV.r hl]))) [w.length] := .set
  have F2 : Frm (W.set w.length (WO.lst (js.map WV.r ++ [WV.r hl]))) (W.set w.length (WO.lst (js.map WV.r ++ [WV.r hl])) ++ [WO.lst []]) [] := .app
  have e0 : (W.set w.length (WO.lst (js.map WV.r ++ [WV.r hl])))[w.length]? = some (.lst (js.map .r ++ [.r hl])) := List.getElem?_set_self l0
  refine ⟨⟨by rw [List.length_append, List.length_set]; have := I.fr.len; omega, fun j h1 h2 => ?_⟩, ?_, ?_, by omega, ?_, fun j hj => ?_⟩
  · rw [List.getElem?_append_left (by rw [List.length_set]; omega), List.getElem?_set_ne (by omega)]
    exact I.fr.same j h1 h2
  · rw [List.map_append]; exact F2.get e0 (by first | exact List.not_mem_nil | (simp only [List.mem_cons, List.not_mem_nil, or_false, not_or]; omega))
  · have := get_l (w := W.set w.length (WO.lst (js.map WV.r ++ [WV.r hl]))) (x := WO.lst []) (r := [])
    rw [List.length_set] at this
    exact this
  · have h2 : LsW (W.set w.length (WO.lst (js.map WV.r ++ [WV.r hl])) ++ [WO.lst []]) js ls := (I.ls.frm F1 fun j hj => by have := (I.jg j hj).1; first | exact List.not_mem_nil | (simp only [List.mem_cons, List.not_mem_nil, or_false, not_or]; omega)).frm F2 fun j hj => (by first | exact List.not_mem_nil | (simp only [List.mem_cons, List.not_mem_nil, or_false, not_or]; omega))
    exact h2.snoc (F2.get (F1.get I.li (by first | exact List.not_mem_nil | (simp only [List.mem_cons, List.not_mem_nil, or_false, not_or]; omega))) (by first | exact List.not_mem_nil | (simp only [List.mem_cons, List.not_mem_nil, or_false, not_or]; omega)))
  · rcases List.mem_append.mp hj with hj | hj
    · have := I.jg j hj
      have := I.ls.lt j hj
      omega
    · rw [List.mem_singleton.mp hj]; omega
theorem SI.one (I : SI w W js hl ls []) (p : Pc) : SI w ((W ++ [WO.lst [dP p]]).set w.length (WO.lst (js.map WV.r ++ [WV.r W.length])) ++ [WO.lst []]) (js ++ [W.length]) (W.length + 1) (ls ++ [[p]]) [] := by
  have l0 := (List.getElem?_eq_some_iff.mp I.hL).1
  have l1 := (List.getElem?_eq_some_iff.mp I.li).1
  have gt := I.gt
  have F0 : Frm W (W ++ [WO.lst [dP p]]) [] := .app
  have ll : (W ++ [WO.lst [dP p]]).length = W.length + 1 := by rw [List.length_append]; rfl
  have F1 : Frm (W ++ [WO.lst [dP p]]) ((W ++ [WO.lst [dP p]]).set w.length (WO.lst (js.map WV.r ++ [WV.r W.length]))) [w.length] := .set
  have F2 : Frm ((W ++ [WO.lst [dP p]]).set w.length (WO.lst (js.map WV.r ++ [WV.r W.length]))) ((W ++ [WO.lst [dP p]]).set w.length (WO.lst (js.map WV.r ++ [WV.r W.length])) ++ [WO.lst []]) [] := .app
  have e0 : ((W ++ [WO.lst [dP p]]).set w.length (WO.lst (js.map WV.r ++ [WV.r W.length])))[w.length]? = some (.lst (js.map .r ++ [.r W.length])) := List.getElem?_set_self (by rw [ll]; omega)
  refine ⟨⟨by rw [List.length_append, List.length_set, ll]; have := I.fr.len; omega, fun j h1 h2 => ?_⟩, ?_, ?_, by omega, ?_, fun j hj => ?_⟩
  · rw [List.getElem?_append_left (by rw [List.length_set, ll]; omega), List.getElem?_set_ne (by omega), List.getElem?_append_left (by omega)]
    exact I.fr.same j h1 h2
  · rw [List.map_append]; exact F2.get e0 (by first | exact List.not_mem_nil | (simp only [List.mem_cons, List.not_mem_nil, or_false, not_or]; omega))
  · have := get_l (w := (W ++ [WO.lst [dP p]]).set w.length (WO.lst (js.map WV.r ++ [WV.r W.length]))) (x := WO.lst []) (r := [])
    rw [List.length_set, ll] at this
    exact this
  · have h2 : LsW ((W ++ [WO.lst [dP p]]).set w.length (WO.lst (js.map WV.r ++ [WV.r W.length])) ++ [WO.lst []]) js ls := ((I.ls.frm F0 fun j hj => (by first | exact List.not_mem_nil | (simp only [List.mem_cons, List.not_mem_nil, or_false, not_or]; omega))).frm F1 fun j hj => by have := (I.jg j hj).1; first | exact List.not_mem_nil | (simp only [List.mem_cons, List.not_mem_nil, or_false, not_or]; omega)).frm F2 fun j hj => (by first | exact List.not_mem_nil | (simp only [List.mem_cons, List.not_mem_nil, or_false, not_or]; omega))
    have e1 : (W ++ [WO.lst [dP p]])[W.length]? = some (.lst ([p].map dP)) := get_l
    exact h2.snoc (F2.get (F1.get e1 (by first | exact List.not_mem_nil | (simp only [List.mem_cons, List.not_mem_nil, or_false, not_or]; omega))) (by first | exact List.not_mem_nil | (simp only [List.mem_cons, List.not_mem_nil, or_false, not_or]; omega)))
  · rcases List.mem_append.mp hj with hj | hj
    · have := I.jg j hj
      have := I.ls.lt j hj
      omega
    · rw [List.mem_singleton.mp hj]; omega
theorem SI.put (I : SI w W js hl ls li) (l2 : List Pc) : SI w (W.set hl (WO.lst (l2.map dP))) js hl ls l2 := by
  have l1 := (List.getElem?_eq_some_iff.mp I.li).1
  have gt := I.gt
  have F1 : Frm W (W.set hl (WO.lst (l2.map dP))) [hl] := .set
  refine ⟨⟨by rw [List.length_set]; exact I.fr.len, fun j h1 h2 => ?_⟩, F1.get I.hL (by first | exact List.not_mem_nil | (simp only [List.mem_cons, List.not_mem_nil, or_false, not_or]; omega)), List.getElem?_set_self l1, gt, I.ls.frm F1 fun j hj => by have := (I.jg j hj).2; first | exact List.not_mem_nil | (simp only [List.mem_cons, List.not_mem_nil, or_false, not_or]; omega), I.jg⟩
  rw [List.getElem?_set_ne (by omega)]
  exact I.fr.same j h1 h2
theorem slw_brk (U : PyData) (rm : Option Int) (gap : Int) (u : Un) (s11 s12 s13 : Slot) (hk : u.kd = 1) (I : SI w W js hl ls li) (h1 : js.length < 100000) : ∃ W' js' hl', L_set_lines_1 (RSw U (encRm rm) gap w.length hl u s11 s12 s13) W = some (.ct (RSw U (encRm rm) gap w.length hl' u s11 s12 s13), W') ∧ SI w W' js' hl' (stpP rm gap (ls, li) u).1 (stpP rm gap (ls, li) u).2 := by
  have q := (kd_q u.kd).1
  rw [decide_eq_true hk] at q
  have lj : (js.map WV.r).length < sizeLine := by rw [List.length_map, sizeLine_eq]; omega
  have c0 : mLB (bT (eOp oEq (eB 5) (eK (.str "break")))) (RSw U (encRm rm) gap w.length hl u s11 s12 s13) W = some (true, W) := by
    unfold RSw
    generalize kdU u.kd = K at *
    push_cast [q]
  have ct : ∀ {f g : DV.MS} {ρ ρ' : Rho} {w w' : Wd}, f ρ w = some (.ct ρ', w') → mSeq f g ρ w = some (.ct ρ', w') := fun e => by unfold mSeq; rw [e]; rfl
  unfold stpP
  rw [if_pos hk]
  have le0 : 0 ≤ sizeLine := Nat.zero_le _
  have le1 : 1 ≤ sizeLine := size_le (by decide)
  have le5 : 5 ≤ sizeLine := size_le (by decide)
  have new : ∀ (W1 : Wd) (h' : Nat), mSeq (mAny 4 (mQR (mMk (mL (eLst aNil))))) (mS sCnt) (RSw U (encRm rm) gap w.length h' u s11 s12 s13) W1 = some (.ct (RSw U (encRm rm) gap w.length W1.length u s11 s12 s13), W1 ++ [WO.lst []]) := fun W1 h' => by
    refine mSqN (ρ' := RSw U (encRm rm) gap w.length W1.length u s11 s12 s13) (w' := W1 ++ [WO.lst []]) ?_ rfl
    rw [mAny_r, mQR_r, mMk_eq (ds := []) (w1 := W1) rfl]; rfl
  unfold L_set_lines_1
  by_cases hn : li = []
  · subst hn
    rw [if_pos rfl]
    refine ⟨_, _, _, ct ((mIf_t c0).trans (mSqN (mAppW (h := w.length) (w1 := W) (w2 := W ++ [WO.lst [dP ⟨u.c, u.a, u.b, 0, 0⟩]]) (x := .r W.length) (l := js.map .r) rfl I.hL ?_ (getl I.hL) lj) ?_)), I.one ⟨u.c, u.a, u.b, 0, 0⟩⟩
    · refine (mOrL_f (w1 := W) (h := hl) rfl I.li).trans ?_
      have mk : mMk (mL (eLst (aCons (eTup (aCons (eV 6) (aCons (eV 7) (aCons (eV 8) (aCons (eK (.int 0)) (aCons (eK (.int 0)) aNil)))))) aNil))) (RSw U (encRm rm) gap w.length hl u s11 s12 s13) W = some (W.length, W ++ [WO.lst [dP ⟨u.c, u.a, u.b, 0, 0⟩]]) := mMk_eq (ds := [encPc ⟨u.c, u.a, u.b, 0, 0⟩]) (w1 := W) (by
        unfold RSw encPc
        push_cast [le1, le5])
      rw [mQR_r, mk]; rfl
    · have ll : ((W ++ [WO.lst [dP ⟨u.c, u.a, u.b, 0, 0⟩]]).set w.length (WO.lst (js.map WV.r ++ [WV.r W.length]))).length = W.length + 1 := by rw [List.length_set, List.length_append]; rfl
      have := new ((W ++ [WO.lst [dP ⟨u.c, u.a, u.b, 0, 0⟩]]).set w.length (WO.lst (js.map WV.r ++ [WV.r W.length]))) hl
      rw [ll] at this
      exact this
  · rw [if_neg hn]
    refine ⟨_, _, _, ct ((mIf_t c0).trans (mSqN (mAppW (h := w.length) (w1 := W) (w2 := W) (x := .r hl) (l := js.map .r) rfl I.hL ?_ I.hL lj) ?_)), I.cut⟩
    · exact mOrL_t (h := hl) rfl I.li (by rw [ne_eq, List.map_eq_nil_iff]; exact hn)
    · have ll : (W.set w.length (WO.lst (js.map WV.r ++ [WV.r hl]))).length = W.length := List.length_set ..
      have := new (W.set w.length (WO.lst (js.map WV.r ++ [WV.r hl]))) hl
      rw [ll] at this
      exact this
def onL (u : Un) (l : List Pc) : Bool := match l.getLast? with
  | none => false
  | some p => onP u p
def lfL (gap : Int) (u : Un) (l : List Pc) : Int := lwP l + if onL u l = true then u.sp else gap
theorem cut_on (rm : Option Int) (gap : Int) (u : Un) (l : List Pc) : cutP rm gap u l = (!l.isEmpty && over rm (lfL gap u l + u.w)) := by
  unfold cutP lfL onL lwP
  rcases List.eq_nil_or_concat l with rfl | ⟨A, p, rfl⟩
  · rfl
  · rw [List.concat_eq_append, List.getLast?_concat]
    have : (A ++ [p]).isEmpty = false := by simp
    rw [this]; rfl
theorem add_on (gap : Int) (u : Un) (l : List Pc) : addP gap u l = match l.getLast? with
    | none => [⟨u.c, u.a, u.b, 0, u.w⟩]
    | some p => if onL u l = true then l.dropLast ++ [⟨u.c, p.a, u.b, p.l, lfL gap u l + u.w - p.l⟩] else l ++ [⟨u.c, u.a, u.b, lfL gap u l, u.w⟩] := by
  unfold addP lfL onL lwP
  cases l.getLast? <;> rfl
theorem slw_stp (U : PyData) (rm : Option Int) (gap : Int) (u : Un) (s11 s12 s13 : Slot) (hk : u.kd ≠ 1) (I : SI w W js hl ls li) (h1 : js.length < 100000) (h2 : li.length < 100000) : ∃ W' js' hl' t11 t12 t13, L_set_lines_1 (RSw U (encRm rm) gap w.length hl u s11 s12 s13) W = some (.nx (RSw U (encRm rm) gap w.length hl' u t11 t12 t13), W') ∧ SI w W' js' hl' (stpP rm gap (ls, li) u).1 (stpP rm gap (ls, li) u).2 := by
  obtain ⟨q, qw⟩ := kd_q u.kd
  rw [decide_eq_false hk] at q
  have lj : (js.map WV.r).length < sizeLine := by rw [List.length_map, sizeLine_eq]; omega
  have ll : (li.map dP).length < sizeLine := by rw [List.length_map, sizeLine_eq]; omega
  have le0 : 0 ≤ sizeLine := Nat.zero_le _
  have le5 : 5 ≤ sizeLine := size_le (by decide)
  have c0 : mLB (bT (eOp oEq (eB 5) (eK (.str "break")))) (RSw U (encRm rm) gap w.length hl u s11 s12 s13) W = some (false, W) := by
    unfold RSw
    generalize kdU u.kd = K at *
    push_cast [q]
  -- goes on
  have g11 : mSet 11 (mAndV (mL (eOp oEq (eB 5) (eK (.str "word")))) (mAndV (mOp oGt (mLenL (mR (mVar 4))) (mL (eK (.int 0)))) (mOp oEq (mOp oIx (mD (mIx (mR (mVar 4)) (mL (eUn oNeg (eK (.int 1)))))) (mL (eK (.int 0)))) (mL (eB 6))))) (RSw U (encRm rm) gap w.length hl u s11 s12 s13) W = some (.nx (RSw U (encRm rm) gap w.length hl u (.val (.bool (onL u li))) s12 s13), W) := by
    refine mSet_eq ?_ (by show 11 < 14; decide)
    have ln := mLenL_eq (fr := mR (mVar 4)) (ρ := RSw U (encRm rm) gap w.length hl u s11 s12 s13) (w := W) (w1 := W) (h := hl) rfl I.li
    have n1 : oNeg (.int 1) = some (.int (-1)) := rfl
    by_cases h0 : u.kd = 0
    · rw [decide_eq_true h0] at qw
      rcases List.eq_nil_or_concat li with rfl | ⟨A, p, rfl⟩
      · show _ = some (PyData.bool false, W)
        have gt : oGt (.int (([] : List Pc).map dP).length) (.int 0) = some (.bool false) := rfl
        unfold RSw at *
        generalize kdU u.kd = K at *
        push_cast [qw, ln, gt]
      · rw [List.concat_eq_append] at *
        have gt : oGt (.int ((A ++ [p]).map dP).length) (.int 0) = some (.bool true) := by
          rw [oGt_i, decide_eq_true (by rw [List.length_map, List.length_append, List.length_singleton]; omega)]
        have ix := mIxD_eq (fr := mR (mVar 4)) (b := mL (eUn oNeg (eK (.int 1)))) (ρ := RSw U (encRm rm) gap w.length hl u s11 s12 s13) (w := W) (w1 := W) (w2 := W) (h := hl) (i := -1) (d := encPc p) (l := (A ++ [p]).map dP) rfl rfl I.li (by rw [List.map_append]; exact atI_last _ _)
        have x0 : oIx (encPc p) (.int 0) = some (.int p.c) := rfl
        have eo : onL u (A ++ [p]) = decide (p.c = u.c) := by
          unfold onL onP
          rw [List.getLast?_concat]
          simp only []
          rw [decide_eq_true h0, Bool.true_and]
        rw [eo]
        have e : oEq (.int p.c) (.int u.c) = some (.bool (decide (p.c = u.c))) := oEq_i
        generalize decide (p.c = u.c) = D at *
        unfold RSw at *
        generalize kdU u.kd = K at *
        generalize encPc p = EP at *
        push_cast [qw, ln, gt, ix, x0, e]
    · rw [decide_eq_false h0] at qw
      have eo : onL u li = false := by
        unfold onL onP
        cases li.getLast? with
        | none => rfl
        | some p => show (decide (u.kd = 0) && _) = false; rw [decide_eq_false h0]; rfl
      rw [eo]
      unfold RSw
      generalize kdU u.kd = K at *
      push_cast [qw]
  -- left
  have lw := lw_eq li (by omega)
  have fb := mFBL (Fn := F_line_width) (q := mVar 4) (ρ := RSw U (encRm rm) gap w.length hl u (.val (.bool (onL u li))) s12 s13) (w := W) (j := hl) rfl (rd_li I.li) lw
  have g12 : mSet 12 (mOp oAdd (mFB F_line_width (maQ (mVar 4) maNil)) (mL (eIf (bV (eB 11)) (eV 10) (eV 2)))) (RSw U (encRm rm) gap w.length hl u (.val (.bool (onL u li))) s12 s13) W = some (.nx (RSw U (encRm rm) gap w.length hl u (.val (.bool (onL u li))) (.val (.int (lfL gap u li))) s13), W) := by
    refine mSet_eq ?_ (by show 12 < 14; decide)
    unfold lfL
    unfold RSw at *
    generalize kdU u.kd = K at *
    generalize onL u li = on at fb ⊢
    cases on with
    | true => rw [if_pos rfl]; push_cast [fb]
    | false => rw [if_neg (by decide)]; push_cast [fb, Bool.false_eq_true, if_false]
  -- the cut
  have tr := fun ρ (hv : mR (mVar 4) ρ W = some (hl, W)) => mTrL_eq (fr := mR (mVar 4)) (ρ := ρ) (w := W) (w1 := W) hv I.li
  have c13 : (mAndB (mTrL (mR (mVar 4))) (mAndB (mLB (bT (eOp oNotN (eB 1) (eK (.none))))) (mLB (bT (eOp oGt (eOp oAdd (eB 12) (eB 9)) (eB 1)))))) (RSw U (encRm rm) gap w.length hl u (.val (.bool (onL u li))) (.val (.int (lfL gap u li))) s13) W = some (cutP rm gap u li, W) := by
    have t := tr (RSw U (encRm rm) gap w.length hl u (.val (.bool (onL u li))) (.val (.int (lfL gap u li))) s13) rfl
    rw [mAndB_r, t, Option.bind_some]
    rw [cut_on]
    have em : (li.map dP).isEmpty = li.isEmpty := by cases li <;> rfl
    rw [em]
    cases li.isEmpty with
    | true => rfl
    | false =>
      show ite (true = true) _ _ = _
      rw [if_pos rfl, Bool.not_false, Bool.true_and]
      unfold RSw
      generalize kdU u.kd = K at *
      cases rm with
      | none =>
        have z : encRm none = .none := rfl
        have z2 : over none (lfL gap u li + u.w) = false := rfl
        rw [z, z2]
        push_cast []
      | some r =>
        have z : encRm (some r) = .int r := rfl
        have z2 : over (some r) (lfL gap u li + u.w) = decide (r < lfL gap u li + u.w) := rfl
        rw [z, z2]
        push_cast []
  unfold stpP
  rw [if_neg hk]
  unfold L_set_lines_1
  cases hc : cutP rm gap u li with
  | true =>
    rw [hc] at c13
    rw [if_pos rfl]
    have I2 := I.cut
    have I3 := I2.put [⟨u.c, u.a, u.b, 0, u.w⟩]
    refine ⟨_, _, _, .val (.bool (onL u li)), .val (.int (lfL gap u li)), s13, ?_, I3⟩
    refine mSqN ((mIf_f c0).trans rfl) (mSqN g11 (mSqN g12 ?_))
    have llW : (W.set w.length (WO.lst (js.map WV.r ++ [WV.r hl]))).length = W.length := List.length_set ..
    refine mSqN (ρ' := RSw U (encRm rm) gap w.length W.length u (.val (.bool (onL u li))) (.val (.int (lfL gap u li))) s13) (w' := W.set w.length (WO.lst (js.map WV.r ++ [WV.r hl])) ++ [WO.lst []]) ((mIf_t c13).trans (mSqN (mAppW (h := w.length) (w1 := W) (w2 := W) (x := .r hl) (l := js.map .r) rfl I.hL rfl I.hL lj) ?_)) ?_
    · rw [mAny_r, mQR_r, mMk_eq (ds := []) (w1 := W.set w.length (WO.lst (js.map WV.r ++ [WV.r hl]))) rfl, llW]; rfl
    · have t := mTrL_eq (fr := mR (mVar 4)) (ρ := RSw U (encRm rm) gap w.length W.length u (.val (.bool (onL u li))) (.val (.int (lfL gap u li))) s13) (w := W.set w.length (WO.lst (js.map WV.r ++ [WV.r hl])) ++ [WO.lst []]) (h := W.length) rfl I2.li
      have cN : (mNot (mTrL (mR (mVar 4)))) (RSw U (encRm rm) gap w.length W.length u (.val (.bool (onL u li))) (.val (.int (lfL gap u li))) s13) (W.set w.length (WO.lst (js.map WV.r ++ [WV.r hl])) ++ [WO.lst []]) = some (true, W.set w.length (WO.lst (js.map WV.r ++ [WV.r hl])) ++ [WO.lst []]) := by rw [mNot_r, t]; rfl
      refine (mIf_t cN).trans ?_
      refine mAppW (h := W.length) (w1 := W.set w.length (WO.lst (js.map WV.r ++ [WV.r hl])) ++ [WO.lst []]) (w2 := W.set w.length (WO.lst (js.map WV.r ++ [WV.r hl])) ++ [WO.lst []]) (x := dP ⟨u.c, u.a, u.b, 0, u.w⟩) (l := []) rfl I2.li ?_ I2.li (size_le (by decide))
      unfold RSw dP encPc
      push_cast [le5]
  | false =>
    rw [hc] at c13
    rw [if_neg (by decide)]
    have t := tr (RSw U (encRm rm) gap w.length hl u (.val (.bool (onL u li))) (.val (.int (lfL gap u li))) s13) rfl
    have cN : (mNot (mTrL (mR (mVar 4)))) (RSw U (encRm rm) gap w.length hl u (.val (.bool (onL u li))) (.val (.int (lfL gap u li))) s13) W = some (li.isEmpty, W) := by
      rw [mNot_r, t]
      have em : (li.map dP).isEmpty = li.isEmpty := by cases li <;> rfl
      rw [em]
      cases li.isEmpty <;> rfl
    have fin : ∀ {t11 t12 t13 : Slot} {W2 : Wd}, (mIf (mNot (mTrL (mR (mVar 4))))
    (mExprQ (mMth lApp (mR (mVar 4)) (maQ (mQ (mL (eTup (aCons (eV 6) (aCons (eV 7) (aCons (eV 8) (aCons (eK (.int 0)) (aCons (eV 9) aNil)))))))) maNil)))
    (mIf (mLB (bV (eB 11)))
      (mSeq (mSet 13 (mD (mIx (mR (mVar 4)) (mL (eUn oNeg (eK (.int 1)))))))
      (mPutI (mR (mVar 4)) (mL (eUn oNeg (eK (.int 1)))) (mQ (mL (eTup (aCons (eV 6) (aCons (eOp oIx (eB 13) (eK (.int 1))) (aCons (eV 8) (aCons (eOp oIx (eB 13) (eK (.int 3))) (aCons (eOp oSub (eOp oAdd (eB 12) (eB 9)) (eOp oIx (eB 13) (eK (.int 3)))) aNil))))))))))
      (mExprQ (mMth lApp (mR (mVar 4)) (maQ (mQ (mL (eTup (aCons (eV 6) (aCons (eV 7) (aCons (eV 8) (aCons (eV 12) (aCons (eV 9) aNil)))))))) maNil))))) (RSw U (encRm rm) gap w.length hl u (.val (.bool (onL u li))) (.val (.int (lfL gap u li))) s13) W = some (.nx (RSw U (encRm rm) gap w.length hl u t11 t12 t13), W2) → W2 = W.set hl (WO.lst ((addP gap u li).map dP)) → ∃ W' js' hl' t11 t12 t13, L_set_lines_1 (RSw U (encRm rm) gap w.length hl u s11 s12 s13) W = some (.nx (RSw U (encRm rm) gap w.length hl' u t11 t12 t13), W') ∧ SI w W' js' hl' ls (addP gap u li) := fun {t11 t12 t13 W2} e e2 => by
      subst e2
      refine ⟨_, _, _, t11, t12, t13, ?_, I.put (addP gap u li)⟩
      exact mSqN ((mIf_f c0).trans rfl) (mSqN g11 (mSqN g12 (mSqN ((mIf_f c13).trans rfl) e)))
    have ao := add_on gap u li
    rcases List.eq_nil_or_concat li with rfl | ⟨A, p, rfl⟩
    · refine fin (t11 := .val (.bool (onL u []))) (t12 := .val (.int (lfL gap u []))) (t13 := s13) ((mIf_t cN).trans (mAppW (h := hl) (w1 := W) (w2 := W) (x := dP ⟨u.c, u.a, u.b, 0, u.w⟩) (l := []) rfl I.li ?_ I.li (size_le (by decide)))) rfl
      unfold RSw dP encPc
      push_cast [le5]
    · rw [List.concat_eq_append] at *
      rw [List.getLast?_concat] at ao
      simp only [] at ao
      have ne : (A ++ [p]).isEmpty = false := by simp
      rw [ne] at cN
      cases ho : onL u (A ++ [p]) with
      | true =>
        rw [ho, if_pos rfl, List.dropLast_concat] at ao
        rw [ho] at fin cN
        have cb : mLB (bV (eB 11)) (RSw U (encRm rm) gap w.length hl u (.val (.bool true)) (.val (.int (lfL gap u (A ++ [p])))) s13) W = some (true, W) := rfl
        have ix := mIxD_eq (fr := mR (mVar 4)) (b := mL (eUn oNeg (eK (.int 1)))) (ρ := RSw U (encRm rm) gap w.length hl u (.val (.bool true)) (.val (.int (lfL gap u (A ++ [p])))) s13) (w := W) (w1 := W) (w2 := W) (h := hl) (i := -1) (d := encPc p) (l := (A ++ [p]).map dP) rfl rfl I.li (by rw [List.map_append]; exact atI_last _ _)
        refine fin (t11 := .val (.bool true)) (t12 := .val (.int (lfL gap u (A ++ [p])))) (t13 := .val (encPc p)) ((mIf_f cN).trans ((mIf_t cb).trans (mSqN (mSet_eq ix (by show 13 < 14; decide)) (mPutI_eq (w1 := W) (w2 := W) (w3 := W) (h := hl) (i := -1) (k := A.length) (x := dP ⟨u.c, p.a, u.b, p.l, lfL gap u (A ++ [p]) + u.w - p.l⟩) (l := (A ++ [p]).map dP) ?_ rfl rfl I.li (by rw [List.length_map]; exact ix_last A p))))) ?_
        · have x1 : oIx (encPc p) (.int 1) = some (.int p.a) := rfl
          have x3 : oIx (encPc p) (.int 3) = some (.int p.l) := rfl
          show mQ _ (RSw U (encRm rm) gap w.length hl u (.val (.bool true)) (.val (.int (lfL gap u (A ++ [p])))) (.val (encPc p))) W = some (WV.d (.tuple [.int u.c, .int p.a, .int u.b, .int p.l, .int (lfL gap u (A ++ [p]) + u.w - p.l)]), W)
          unfold RSw
          generalize encPc p = EP at *
          generalize kdU u.kd = K at *
          push_cast [x1, x3, le5]
        · rw [ao]
          congr 2
          rw [List.map_append, List.map_append]
          have : A.length = (A.map dP).length := (List.length_map _).symm
          rw [this]
          exact set_last _ _ _
      | false =>
        rw [ho, if_neg (by decide)] at ao
        rw [ho] at fin cN
        have cb : mLB (bV (eB 11)) (RSw U (encRm rm) gap w.length hl u (.val (.bool false)) (.val (.int (lfL gap u (A ++ [p])))) s13) W = some (false, W) := rfl
        refine fin (t11 := .val (.bool false)) (t12 := .val (.int (lfL gap u (A ++ [p])))) (t13 := s13) ((mIf_f cN).trans ((mIf_f cb).trans (mAppW (h := hl) (w1 := W) (w2 := W) (x := dP ⟨u.c, u.a, u.b, lfL gap u (A ++ [p]), u.w⟩) (l := (A ++ [p]).map dP) rfl I.li ?_ I.li ll))) ?_
        · show mQ _ _ _ = some (WV.d (.tuple [.int u.c, .int u.a, .int u.b, .int (lfL gap u (A ++ [p])), .int u.w]), W)
          unfold RSw
          generalize kdU u.kd = K at *
          push_cast [le5]
        · rw [ao]
          congr 2
          rw [List.map_append (l₁ := A ++ [p])]; rfl
theorem slw_go (U : PyData) (rm : Option Int) (gap : Int) : ∀ (us : List Un) {W : Wd} {js : List Nat} {hl : Nat} {ls : List (List Pc)} {li : List Pc} (I : SI w W js hl ls li) (x5 x6 x7 x8 x9 x10 x11 x12 x13 : Slot), js.length + us.length < 90000 → li.length + us.length < 90000 →
    ∃ W' js' hl' t5 t6 t7 t8 t9 t10 t11 t12 t13, mForGo (gT 6 (gsCons (gV 5) (gsCons (gV 6) (gsCons (gV 7) (gsCons (gV 8) (gsCons (gV 9) (gsCons (gV 10) gsNil))))))) L_set_lines_1 (us.map encU) [.bor U, .bor (encRm rm), .val (.int gap), .st w.length, .st hl, x5, x6, x7, x8, x9, x10, x11, x12, x13] W = some (.nx [.bor U, .bor (encRm rm), .val (.int gap), .st w.length, .st hl', t5, t6, t7, t8, t9, t10, t11, t12, t13], W') ∧ SI w W' js' hl' (us.foldl (stpP rm gap) (ls, li)).1 (us.foldl (stpP rm gap) (ls, li)).2
  | [], W, js, hl, ls, li, I, x5, x6, x7, x8, x9, x10, x11, x12, x13, _, _ => ⟨W, js, hl, x5, x6, x7, x8, x9, x10, x11, x12, x13, rfl, I⟩
  | u :: us, W, js, hl, ls, li, I, x5, x6, x7, x8, x9, x10, x11, x12, x13, h1, h2 => by
    rw [List.length_cons] at h1 h2
    have sl := stpP_len rm gap (ls, li) u
    have lj := I.ls.len
    by_cases hk : u.kd = 1
    · obtain ⟨W1, js1, hl1, e, I1⟩ := slw_brk U rm gap u x11 x12 x13 hk I (by omega)
      have lj1 := I1.ls.len
      obtain ⟨W2, js2, hl2, t5, t6, t7, t8, t9, t10, t11, t12, t13, e2, I2⟩ := slw_go U rm gap us I1 (.val (.str (kdU u.kd))) (.val (.int u.c)) (.val (.int u.a)) (.val (.int u.b)) (.val (.int u.w)) (.val (.int u.sp)) x11 x12 x13 (by simp only [] at sl; omega) (by simp only [] at sl; omega)
      refine ⟨W2, js2, hl2, t5, t6, t7, t8, t9, t10, t11, t12, t13, ?_, I2⟩
      rw [List.map_cons]
      exact (mForGo_ct (ρ1 := RSw U (encRm rm) gap w.length hl u x11 x12 x13) rfl e).trans e2
    · obtain ⟨W1, js1, hl1, u11, u12, u13, e, I1⟩ := slw_stp U rm gap u x11 x12 x13 hk I (by omega) (by omega)
      have lj1 := I1.ls.len
      obtain ⟨W2, js2, hl2, t5, t6, t7, t8, t9, t10, t11, t12, t13, e2, I2⟩ := slw_go U rm gap us I1 (.val (.str (kdU u.kd))) (.val (.int u.c)) (.val (.int u.a)) (.val (.int u.b)) (.val (.int u.w)) (.val (.int u.sp)) u11 u12 u13 (by simp only [] at sl; omega) (by simp only [] at sl; omega)
      refine ⟨W2, js2, hl2, t5, t6, t7, t8, t9, t10, t11, t12, t13, ?_, I2⟩
      rw [List.map_cons]
      exact (mForGo_one (ρ1 := RSw U (encRm rm) gap w.length hl u x11 x12 x13) rfl e).trans e2
theorem setw_ex (w : Wd) (us : List Un) (rm : Option Int) (gap : Int) (hu : us.length < 80000) : ∃ W js, F_set_lines [.d (.list (us.map encU)), .d (encRm rm), .d (.int gap)] w = some (.r w.length, W) ∧ Frm w W [] ∧ W[w.length]? = some (.lst (js.map .r)) ∧ LsW W js (setP rm gap us) ∧ ∀ j ∈ js, w.length < j := by
  have ll : (w ++ [WO.lst []]).length = w.length + 1 := by rw [List.length_append]; rfl
  have I0 : SI w (w ++ [WO.lst []] ++ [WO.lst []]) [] (w.length + 1) [] [] := by
    refine ⟨?_, ?_, ?_, by omega, True.intro, fun j hj => by cases hj⟩
    · rw [List.append_assoc]; exact .app
    · exact getl get_l
    · rw [← ll]; exact get_l
  obtain ⟨W1, js, hl, t5, t6, t7, t8, t9, t10, t11, t12, t13, e, I1⟩ := slw_go (.list (us.map encU)) rm gap us I0 .un .un .un .un .un .un .un .un .un (by simp only [List.length_nil]; omega) (by simp only [List.length_nil]; omega)
  have fl := stpP_fl rm gap us ([], [])
  have lj := I1.ls.len
  have lj2 : (js.map WV.r).length < sizeLine := by rw [List.length_map, sizeLine_eq]; simp only [List.length_nil] at fl; omega
  have start : ∀ {o : Option (OW × Wd)}, (mSeq (mIf (mTrL (mR (mVar 4)))
    (mExprQ (mMth lApp (mR (mVar 3)) (maQ (mVar 4) maNil)))
    mNext)
  (mRetQ (mVar 3))) [.bor (.list (us.map encU)), .bor (encRm rm), .val (.int gap), .st w.length, .st hl, t5, t6, t7, t8, t9, t10, t11, t12, t13] W1 = o → B_set_lines [.bor (.list (us.map encU)), .bor (encRm rm), .val (.int gap), .un, .un, .un, .un, .un, .un, .un, .un, .un, .un, .un] w = o := by
    intro o h
    unfold B_set_lines
    refine mSqN (ρ' := [.bor (.list (us.map encU)), .bor (encRm rm), .val (.int gap), .st w.length, .un, .un, .un, .un, .un, .un, .un, .un, .un, .un]) (w' := w ++ [WO.lst []]) (by rw [mAny_r, mQR_r, mMk_eq (ds := []) (w1 := w) rfl]; rfl) ?_
    refine mSqN (ρ' := [.bor (.list (us.map encU)), .bor (encRm rm), .val (.int gap), .st w.length, .st (w.length + 1), .un, .un, .un, .un, .un, .un, .un, .un, .un]) (w' := w ++ [WO.lst []] ++ [WO.lst []]) (by rw [mAny_r, mQR_r, mMk_eq (ds := []) (w1 := w ++ [WO.lst []]) rfl, ll]; rfl) ?_
    exact mSqN ((mFor_eq rfl).trans e) h
  have t := mTrL_eq (fr := mR (mVar 4)) (ρ := [.bor (.list (us.map encU)), .bor (encRm rm), .val (.int gap), .st w.length, .st hl, t5, t6, t7, t8, t9, t10, t11, t12, t13]) (w := W1) (w1 := W1) (h := hl) rfl I1.li
  have em : ((us.foldl (stpP rm gap) ([], [])).2.map dP).isEmpty = (us.foldl (stpP rm gap) ([], [])).2.isEmpty := by cases (us.foldl (stpP rm gap) ([], [])).2 <;> rfl
  rw [em] at t
  unfold setP
  by_cases hn : (us.foldl (stpP rm gap) ([], [])).2 = []
  · rw [if_pos hn]
    rw [hn] at t
    exact ⟨W1, js, boxW_rt rfl (start (mSqN ((mIf_f t).trans rfl) rfl)), I1.fr, I1.hL, I1.ls, fun j hj => (I1.jg j hj).1⟩
  · rw [if_neg hn]
    have e1 : (us.foldl (stpP rm gap) ([], [])).2.isEmpty = false := by
      cases h : (us.foldl (stpP rm gap) ([], [])).2 with
      | nil => exact absurd h hn
      | cons a b => rfl
    rw [e1] at t
    have l0 := (List.getElem?_eq_some_iff.mp I1.hL).1
    have gt := I1.gt
    have F1 : Frm W1 (W1.set w.length (WO.lst (js.map WV.r ++ [WV.r hl]))) [w.length] := .set
    refine ⟨W1.set w.length (WO.lst (js.map WV.r ++ [WV.r hl])), js ++ [hl], boxW_rt rfl (start (mSqN ((mIf_t t).trans (mAppW (h := w.length) (w1 := W1) (w2 := W1) (x := .r hl) (l := js.map .r) rfl I1.hL rfl I1.hL lj2)) rfl)), ⟨by rw [List.length_set]; exact I1.fr.len, fun j h1 h2 => ?_⟩, ?_, ?_, fun j hj => ?_⟩
    · rw [List.getElem?_set_ne (by omega)]
      exact I1.fr.same j h1 h2
    · rw [List.map_append]; exact List.getElem?_set_self l0
    · have h2 : LsW (W1.set w.length (WO.lst (js.map WV.r ++ [WV.r hl]))) js (us.foldl (stpP rm gap) ([], [])).1 := I1.ls.frm F1 fun j hj => by have := (I1.jg j hj).1; first | exact List.not_mem_nil | (simp only [List.mem_cons, List.not_mem_nil, or_false, not_or]; omega)
      exact h2.snoc (F1.get I1.li (by first | exact List.not_mem_nil | (simp only [List.mem_cons, List.not_mem_nil, or_false, not_or]; omega)))
    · rcases List.mem_append.mp hj with hj | hj
      · exact (I1.jg j hj).1
      · rw [List.mem_singleton.mp hj]; exact gt
end


def Ord (L : Nat) : Nat → List (Nat × Nat) → Prop
  | _, [] => True
  | e, p :: ps => e ≤ p.1 ∧ p.1 ≤ p.2 ∧ p.2 ≤ L ∧ Ord L p.2 ps
/-! ### the words of a whole text -/
def Wp (T : List Nat) : Nat → List (Nat × Nat) → Nat → Prop
  | a, [], b => ∀ x, a ≤ x → x < b → ¬ ltr T x
  | a, (s, t) :: F, b => (a ≤ s ∧ s < t ∧ t ≤ b ∧ (∀ x, a ≤ x → x < s → ¬ ltr T x) ∧ (∀ x, s ≤ x → x < t → ltr T x) ∧ (t < b → ¬ ltr T t)) ∧ Wp T t F b
theorem Wp.uniq {T : List Nat} {b : Nat} : ∀ {F F' : List (Nat × Nat)} {a : Nat}, Wp T a F b → Wp T a F' b → F = F'
  | [], [], _, _, _ => rfl
  | [], (s, t) :: F', a, h, h' => by
    obtain ⟨⟨p1, p2, p3, p4, p5, p6⟩, _⟩ := h'
    exact absurd (p5 s (Nat.le_refl _) p2) (h s p1 (by omega))
  | (s, t) :: F, [], a, h', h => by
    obtain ⟨⟨p1, p2, p3, p4, p5, p6⟩, _⟩ := h'
    exact absurd (p5 s (Nat.le_refl _) p2) (h s p1 (by omega))
  | (s, t) :: F, (s', t') :: F', a, h, h' => by
    obtain ⟨⟨p1, p2, p3, p4, p5, p6⟩, p7⟩ := h
    obtain ⟨⟨q1, q2, q3, q4, q5, q6⟩, q7⟩ := h'
    have e1 : s = s' := by
      by_cases c : s < s'
      · exact absurd (p5 s (Nat.le_refl _) p2) (q4 s p1 c)
      · by_cases c2 : s' < s
        · exact absurd (q5 s' (Nat.le_refl _) q2) (p4 s' q1 c2)
        · omega
    subst e1
    have e2 : t = t' := by
      by_cases c : t < t'
      · exact absurd (q5 t (by omega) c) (p6 (by omega))
      · by_cases c2 : t' < t
        · exact absurd (p5 t' (by omega) c2) (q6 (by omega))
        · omega
    subst e2
    rw [p7.uniq q7]
theorem Wp.up {T : List Nat} {b c : Nat} (hbc : b ≤ c) (hn : ∀ x, b ≤ x → x < c → ¬ ltr T x) : ∀ {F : List (Nat × Nat)} {a : Nat}, Wp T a F b → Wp T a F c
  | [], a, h => fun x h1 h2 => by
    by_cases z : x < b
    · exact h x h1 z
    · exact hn x (by omega) h2
  | (s, t) :: F, a, h => by
    obtain ⟨⟨p1, p2, p3, p4, p5, p6⟩, p7⟩ := h
    refine ⟨⟨p1, p2, by omega, p4, p5, fun z => ?_⟩, Wp.up hbc hn p7⟩
    by_cases y : t < b
    · exact p6 y
    · exact hn t (by omega) z
theorem Wp.down {T : List Nat} {a' a b : Nat} (h1 : a' ≤ a) (hn : ∀ x, a' ≤ x → x < a → ¬ ltr T x) : ∀ {F : List (Nat × Nat)}, Wp T a F b → Wp T a' F b
  | [], h => fun x z1 z2 => by
    by_cases z : x < a
    · exact hn x z1 z
    · exact h x (by omega) z2
  | (s, t) :: F, h => by
    obtain ⟨⟨p1, p2, p3, p4, p5, p6⟩, p7⟩ := h
    refine ⟨⟨by omega, p2, p3, fun x z1 z2 => ?_, p5, p6⟩, p7⟩
    by_cases z : x < a
    · exact hn x z1 z
    · exact p4 x (by omega) z2
theorem Wp.app {T : List Nat} {b c d : Nat} (hbc : b ≤ c) (hcd : c ≤ d) (hb : b < d → ¬ ltr T b) (hn : ∀ x, b ≤ x → x < c → ¬ ltr T x) : ∀ {F F' : List (Nat × Nat)} {a : Nat}, a ≤ b → Wp T a F b → Wp T c F' d → Wp T a (F ++ F') d
  | [], F', a, hab, h, h' => h'.down (by omega) fun x h1 h2 => by
    by_cases z : x < b
    · exact h x h1 z
    · exact hn x (by omega) h2
  | (s, t) :: F, F', a, hab, h, h' => by
    obtain ⟨⟨p1, p2, p3, p4, p5, p6⟩, p7⟩ := h
    refine ⟨⟨p1, p2, by omega, p4, p5, fun z => ?_⟩, Wp.app hbc hcd hb hn p3 p7 h'⟩
    by_cases y : t < b
    · exact p6 y
    · have : t = b := by omega
      subst this
      exact hb z
theorem Chk.wp {T : List Nat} {lo hi : Nat} : ∀ {F : List (Nat × Nat)} {a e : Nat}, Chk T lo hi a F e → (∀ x, e ≤ x → x < hi → ¬ ltr T x) → Wp T a F hi
  | [], a, e, h, hn => by
    have : e = a := h
    subst this
    exact hn
  | (s, t) :: F, a, e, h, hn => by
    obtain ⟨⟨p1, p2, p3, p4, p5, p6, p7⟩, p8⟩ := h
    exact ⟨⟨p1, p2, p3, p4, p5, p7⟩, p8.wp hn⟩
theorem Ord.up {L L' : Nat} (h : L ≤ L') : ∀ {F : List (Nat × Nat)} {a a' : Nat}, a' ≤ a → Ord L a F → Ord L' a' F
  | [], _, _, _, _ => trivial
  | p :: F, a, a', ha, ⟨o1, o2, o3, o4⟩ => ⟨by omega, o2, by omega, Ord.up h (Nat.le_refl _) o4⟩
def Rows (T : List Nat) : Nat → List (Nat × Nat) → Prop
  | _, [] => False
  | s, [r] => r.1 = s ∧ s ≤ r.2 ∧ r.2 = T.length ∧ (∀ x, s ≤ x → x < r.2 → T.getD x 0 ≠ 10)
  | s, r :: q :: rs => r.1 = s ∧ s ≤ r.2 ∧ r.2 < T.length ∧ T.getD r.2 0 = 10 ∧ (∀ x, s ≤ x → x < r.2 → T.getD x 0 ≠ 10) ∧ Rows T (r.2 + 1) (q :: rs)
theorem wds_wp (T : List Nat) (aT : Asc T) (lT : T.length ≤ 4000) (a b : Nat) (h1 : a ≤ b) (h2 : b ≤ T.length) : Wp T a (wds T a b) b := by
  obtain ⟨_, _, _, c1, c2, c3, c4⟩ := wds_ok T aT lT a b h1 h2
  exact c1.wp c4

/-! ### the law's words (k63) -/
theorem wp_snoc {T : List Nat} {k : Nat} (hk : ltr T k) : ∀ {F : List (Nat × Nat)} {a : Nat}, a ≤ k → Wp T a F k → (k = a ∨ ¬ ltr T (k - 1)) → Wp T a (F ++ [(k, k + 1)]) (k + 1)
  | [], a, ha, h, _ => ⟨⟨ha, Nat.lt_succ_self _, Nat.le_refl _, h, fun x h1 h2 => (by have : x = k := by omega
                                                                                      subst this; exact hk), fun z => absurd z (Nat.lt_irrefl _)⟩, fun x h1 h2 => absurd h2 (by omega)⟩
  | (s, t) :: F, a, ha, ⟨⟨c1, c2, c3, c4, c5, c6⟩, c7⟩, hp => by
    have htk : t < k := by
      rcases Nat.lt_or_ge t k with z | z
      · exact z
      · have : t = k := by omega
        subst this
        rcases hp with z | z
        · omega
        · exact absurd (c5 (t - 1) (by omega) (by omega)) z
    refine ⟨⟨c1, c2, by omega, c4, c5, fun _ => c6 htk⟩, wp_snoc hk c3 c7 ?_⟩
    rcases hp with z | z
    · omega
    · exact .inr z
theorem Wp.next_lt {T : List Nat} {b : Nat} : ∀ {F : List (Nat × Nat)} {q : Nat × Nat} {a : Nat}, Wp T a (q :: F) b → a < q.2 ∧ q.2 ≤ b := fun ⟨⟨c1, c2, c3, _⟩, _⟩ => ⟨by omega, c3⟩
theorem wp_grow {T : List Nat} {k : Nat} (hk : ltr T k) (hk1 : ltr T (k - 1)) : ∀ {F : List (Nat × Nat)} {a : Nat}, a < k → Wp T a F k → ∃ G s, F = G ++ [(s, k)] ∧ Wp T a (G ++ [(s, k + 1)]) (k + 1)
  | [], a, ha, h => absurd hk1 (h (k - 1) (by omega) (by omega))
  | [(s, t)], a, ha, ⟨⟨c1, c2, c3, c4, c5, c6⟩, c7⟩ => by
    have htk : t = k := by
      rcases Nat.lt_or_ge t k with z | z
      · exact absurd hk1 (c7 (k - 1) (by omega) (by omega))
      · omega
    subst htk
    refine ⟨[], s, rfl, ⟨⟨c1, by omega, Nat.le_refl _, c4, fun x h1 h2 => ?_, fun z => absurd z (Nat.lt_irrefl _)⟩, fun x h1 h2 => absurd h2 (by omega)⟩⟩
    by_cases z : x = t
    · subst z; exact hk
    · exact c5 x h1 (by omega)
  | (s, t) :: q :: F, a, ha, ⟨⟨c1, c2, c3, c4, c5, c6⟩, c7⟩ => by
    have hq := c7.next_lt
    obtain ⟨G, s', e, w⟩ := wp_grow hk hk1 (F := q :: F) (a := t) (by omega) c7
    refine ⟨(s, t) :: G, s', by rw [e]; rfl, ⟨⟨c1, c2, by omega, c4, c5, fun _ => c6 (by omega)⟩, w⟩⟩
theorem lwGo (T : List Nat) (aT : Asc T) (lT : T.length ≤ 4000) (a b : Nat) (hb : b ≤ T.length) (h10 : ∀ x, a ≤ x → x < b → T.getD x 0 ≠ 10) : ∀ (n k : Nat) (F : List (Nat × Nat)) (s4 : Slot), k + n = b → a ≤ k → F.length ≤ k → Wp T a F k → ∃ F' s4', forGo (gV 4) L__law_words_1 (rangeD (k : Nat) n) [.bor (tS T), .val (.int (a : Nat)), .val (.int (b : Nat)), .own (.list (F.map encP)), s4] = some (.nx [.bor (tS T), .val (.int (a : Nat)), .val (.int (b : Nat)), .own (.list (F'.map encP)), s4']) ∧ Wp T a F' b
  | 0, k, F, s4, hk, _, _, hw => ⟨F, s4, rfl, by have : k = b := by omega
                                                 subst this; exact hw⟩
  | n + 1, k, F, s4, hk, ha, hF, hw => by
    obtain ⟨t1, t2⟩ := tAt T aT (by omega) k (by omega)
    have e1 : oNe (tS [T.getD k 0]) (tS [32]) = some (.bool (decide (T.getD k 0 ≠ 32))) := by
      have c1 : clean 9 (tS [T.getD k 0]) = true := by simpa [tS, clean] using tOk (l := [T.getD k 0]) (fun c hc => by rw [List.mem_singleton.mp hc]; exact t2)
      have c2 : clean 9 (tS [32]) = true := by simpa [tS, clean] using tOk (l := [32]) (fun c hc => by rw [List.mem_singleton.mp hc]; decide)
      rw [oNe_c c1 c2, eqv_dec c1 c2 (T.getD k 0 = 32) (by simp [tS])]
      simp
    have hg : gV 4 (.int (k : Nat)) [.bor (tS T), .val (.int (a : Nat)), .val (.int (b : Nat)), .own (.list (F.map encP)), s4] = some [.bor (tS T), .val (.int (a : Nat)), .val (.int (b : Nat)), .own (.list (F.map encP)), .val (.int (k : Nat))] := rfl
    have go : ∀ F1 : List (Nat × Nat), F1.length ≤ k + 1 → Wp T a F1 (k + 1) → L__law_words_1 [.bor (tS T), .val (.int (a : Nat)), .val (.int (b : Nat)), .own (.list (F.map encP)), .val (.int (k : Nat))] = some (.nx [.bor (tS T), .val (.int (a : Nat)), .val (.int (b : Nat)), .own (.list (F1.map encP)), .val (.int (k : Nat))]) → ∃ F' s4', forGo (gV 4) L__law_words_1 (rangeD (k : Nat) (n + 1)) [.bor (tS T), .val (.int (a : Nat)), .val (.int (b : Nat)), .own (.list (F.map encP)), s4] = some (.nx [.bor (tS T), .val (.int (a : Nat)), .val (.int (b : Nat)), .own (.list (F'.map encP)), s4']) ∧ Wp T a F' b := fun F1 l1 w1 st => by
      obtain ⟨F', s4', e, w⟩ := lwGo T aT lT a b hb h10 n (k + 1) F1 (.val (.int (k : Nat))) (by omega) (by omega) l1 w1
      refine ⟨F', s4', ?_, w⟩
      rw [rangeD_cons, forGo, hg, Option.bind_some, st, Option.bind_some]
      exact e
    have lF : (F.map encP).length < sizeLine := by rw [List.length_map, sizeLine_eq]; omega
    have le2 : 2 ≤ sizeLine := size_le (by decide)
    by_cases c : T.getD k 0 = 32
    · have d1 : decide (T.getD k 0 ≠ 32) = false := decide_eq_false (fun z => z c)
      refine go F (by omega) (hw.up (Nat.le_succ k) fun x h1 h2 => by
        have : x = k := by omega
        subst this
        exact fun z => z.1 c) ?_
      unfold L__law_words_1
      rw [lit_sp]
      generalize tS T = TT at *
      generalize tS [T.getD k 0] = ck at *
      generalize tS [32] = sp at *
      push_cast only [t1, e1, d1]
    · have d1 : decide (T.getD k 0 ≠ 32) = true := decide_eq_true c
      have hl : ltr T k := ⟨c, h10 k ha (by omega)⟩
      by_cases z : k = a
      · refine go (F ++ [(k, k + 1)]) (by rw [List.length_append, List.length_cons, List.length_nil]; omega) (wp_snoc hl ha hw (.inl z)) ?_
        have d2 : decide ((k : Int) = (a : Nat)) = true := decide_eq_true (by omega)
        rw [List.map_append (f := encP), List.map_cons, List.map_nil]
        show _ = some (Out.nx [.bor (tS T), .val (.int (a : Nat)), .val (.int (b : Nat)), .own (.list (F.map encP ++ [.tuple [.int (k : Nat), .int ((k : Int) + 1)]])), .val (.int (k : Nat))])
        unfold L__law_words_1
        rw [lit_sp]
        generalize tS T = TT at *
        generalize tS [T.getD k 0] = ck at *
        generalize tS [32] = sp at *
        generalize F.map encP = FF at *
        push_cast only [t1, e1, d1, d2, le2, lF]
      · have d2 : decide ((k : Int) = (a : Nat)) = false := decide_eq_false (by omega)
        obtain ⟨u1, u2⟩ := tAt T aT (by omega) (k - 1) (by omega)
        have e2 := tEq (a := [T.getD (k - 1) 0]) (b := [32]) (fun c hc => by rw [List.mem_singleton.mp hc]; exact u2) (fun c hc => by rw [List.mem_singleton.mp hc]; decide)
        have e2 : oEq (tS [T.getD (k - 1) 0]) (tS [32]) = some (.bool (decide (T.getD (k - 1) 0 = 32))) := by rw [e2]; congr 2; simp
        have hkm : ((k : Int) - 1) = ((k - 1 : Nat) : Int) := by omega
        by_cases y : T.getD (k - 1) 0 = 32
        · refine go (F ++ [(k, k + 1)]) (by rw [List.length_append, List.length_cons, List.length_nil]; omega) (wp_snoc hl ha hw (.inr fun w => w.1 y)) ?_
          have d3 : decide (T.getD (k - 1) 0 = 32) = true := decide_eq_true y
          rw [List.map_append (f := encP), List.map_cons, List.map_nil]
          show _ = some (Out.nx [.bor (tS T), .val (.int (a : Nat)), .val (.int (b : Nat)), .own (.list (F.map encP ++ [.tuple [.int (k : Nat), .int ((k : Int) + 1)]])), .val (.int (k : Nat))])
          unfold L__law_words_1
          rw [lit_sp]
          generalize tS T = TT at *
          generalize tS [T.getD k 0] = ck at *
          generalize tS [T.getD (k - 1) 0] = cm at *
          generalize tS [32] = sp at *
          generalize F.map encP = FF at *
          push_cast only [t1, e1, d1, d2, hkm, u1, e2, d3, le2, lF]
        · have d3 : decide (T.getD (k - 1) 0 = 32) = false := decide_eq_false y
          obtain ⟨G, s, rfl, w1⟩ := wp_grow hl ⟨y, h10 (k - 1) (by omega) (by omega)⟩ (by omega) hw
          refine go (G ++ [(s, k + 1)]) (by rw [List.length_append] at hF ⊢; simp at hF ⊢; omega) w1 ?_
          have g3 : oIx (.list ((G ++ [(s, k)]).map encP)) (.int (-1)) = some (encP (s, k)) := last_enc G (s, k)
          have g4 : ixN ((G ++ [(s, k)]).map encP).length (-1) = some G.length := by rw [List.length_map]; exact ix_last G (s, k)
          have g5 : oIx (encP (s, k)) (.int 0) = some (.int (s : Nat)) := rfl
          have g6 : ((G ++ [(s, k)]).map encP).set G.length (.tuple [.int (s : Nat), .int ((k : Int) + 1)]) = (G ++ [(s, k + 1)]).map encP := by
            rw [List.map_append, List.map_append, List.set_append_right _ _ (by rw [List.length_map]; exact Nat.le_refl _), List.length_map, Nat.sub_self]; rfl
          have fs : fSet ((G ++ [(s, k)]).map encP) [.int (-1), .tuple [.int (s : Nat), .int ((k : Int) + 1)]] = some (.list ((G ++ [(s, k + 1)]).map encP)) := by
            rw [← g6]
            unfold fSet
            simp only []
            rw [g4]; rfl
          have pt : (sPut 3 (eTup (aCons (eOp oIx (eOp oIx (eB 3) (eUn oNeg (eK (.int 1)))) (eK (.int 0))) (aCons (eOp oAdd (eB 4) (eK (.int 1))) aNil))) (eUn oNeg (eK (.int 1)))) [.bor (tS T), .val (.int (a : Nat)), .val (.int (b : Nat)), .own (.list ((G ++ [(s, k)]).map encP)), .val (.int (k : Nat))] = some (.nx [.bor (tS T), .val (.int (a : Nat)), .val (.int (b : Nat)), .own (.list ((G ++ [(s, k + 1)]).map encP)), .val (.int (k : Nat))]) := by
            have ev : (eTup (aCons (eOp oIx (eOp oIx (eB 3) (eUn oNeg (eK (.int 1)))) (eK (.int 0))) (aCons (eOp oAdd (eB 4) (eK (.int 1))) aNil))) [.bor (tS T), .val (.int (a : Nat)), .val (.int (b : Nat)), .own (.list ((G ++ [(s, k)]).map encP)), .val (.int (k : Nat))] = some (.tuple [.int (s : Nat), .int ((k : Int) + 1)]) := by
              generalize PyData.list ((G ++ [(s, k)]).map encP) = L at *
              generalize encP (s, k) = q at *
              push_cast only [g3, g5, le2]
            have ei : (eUn oNeg (eK (.int 1))) [.bor (tS T), .val (.int (a : Nat)), .val (.int (b : Nat)), .own (.list ((G ++ [(s, k)]).map encP)), .val (.int (k : Nat))] = some (.int (-1)) := rfl
            unfold sPut
            rw [ev, Option.bind_some]
            show ((eUn oNeg (eK (.int 1))) _).bind _ = _
            rw [ei, Option.bind_some, fs]; rfl
          unfold L__law_words_1
          rw [lit_sp]
          generalize PyData.list ((G ++ [(s, k)]).map encP) = L at *
          generalize PyData.list ((G ++ [(s, k + 1)]).map encP) = L2 at *
          generalize tS T = TT at *
          generalize tS [T.getD k 0] = ck at *
          generalize tS [T.getD (k - 1) 0] = cm at *
          generalize tS [32] = sp at *
          push_cast only [t1, e1, d1, d2, hkm, u1, e2, d3, pt]
theorem lwords_eq (T : List Nat) (aT : Asc T) (lT : T.length ≤ 4000) (a b : Nat) (hab : a ≤ b) (hb : b ≤ T.length) (h10 : ∀ x, a ≤ x → x < b → T.getD x 0 ≠ 10) : F__law_words [tS T, .int (a : Nat), .int (b : Nat)] = some (.list ((wds T a b).map encP)) := by
  obtain ⟨F, s4, e, w⟩ := lwGo T aT lT a b hb h10 (b - a) a [] .un (by omega) (Nat.le_refl _) (Nat.zero_le _) (fun x h1 h2 => absurd h2 (by omega))
  have hF : F = wds T a b := Wp.uniq w (wds_wp T aT lT a b hab hb)
  rw [hF] at e
  simp only [List.map_nil] at e
  have rg : rng2 [.int (a : Nat), .int (b : Nat)] = some (rangeD (a : Nat) (b - a)) := by
    rw [rng2_r (by omega) (by omega) (by omega) (by omega)]
    congr 2; omega
  refine box_rt rfl ?_
  show B__law_words [.bor (tS T), .val (.int (a : Nat)), .val (.int (b : Nat)), .un, .un] = _
  unfold B__law_words
  rw [seq_nx (ρ' := [.bor (tS T), .val (.int (a : Nat)), .val (.int (b : Nat)), .own (.list []), .un]) (by push_cast only [size_le])]
  rw [seq_nx ((sFor_eq (sArgs_eq (ds := [.int (a : Nat), .int (b : Nat)]) (by push_cast only []) rg)).trans e)]
  rfl
theorem lparaGo (tx : PyData) : ∀ (ps : List (List Nat)) (s : Nat) (acc : List (Nat × Nat)) (s3 : Slot), (∀ p ∈ ps, p.length ≤ 100000) → acc.length + ps.length ≤ 100000 → ∃ s2' s3', forGo (gV 3) L__law_paragraphs_1 (ps.map tS) [.bor tx, .own (.list (acc.map encP)), .val (.int (s : Nat)), s3] = some (.nx [.bor tx, .own (.list ((acc ++ rowsV s ps).map encP)), s2', s3'])
  | [], s, acc, s3, _, _ => ⟨_, s3, by rw [rowsV, List.append_nil]; rfl⟩
  | p :: ps, s, acc, s3, hp, hl => by
    rw [List.length_cons] at hl
    obtain ⟨s2', s3', e⟩ := lparaGo tx ps (s + p.length + 1) (acc ++ [(s, s + p.length)]) (.val (tS p)) (fun q hq => hp q (List.mem_cons_of_mem _ hq)) (by rw [List.length_append, List.length_cons, List.length_nil]; omega)
    refine ⟨s2', s3', ?_⟩
    have ln := tLen p (by have := hp p List.mem_cons_self; omega)
    have l1 : (acc.map encP).length < sizeLine := by rw [List.length_map, sizeLine_eq]; omega
    have le2 : 2 ≤ sizeLine := size_le (by decide)
    have hg : gV 3 (tS p) [.bor tx, .own (.list (acc.map encP)), .val (.int (s : Nat)), s3] = some [.bor tx, .own (.list (acc.map encP)), .val (.int (s : Nat)), .val (tS p)] := rfl
    have st : L__law_paragraphs_1 [.bor tx, .own (.list (acc.map encP)), .val (.int (s : Nat)), .val (tS p)] = some (.nx [.bor tx, .own (.list ((acc ++ [(s, s + p.length)]).map encP)), .val (.int ((s + p.length + 1 : Nat) : Int)), .val (tS p)]) := by
      rw [List.map_append (f := encP), List.map_cons, List.map_nil]
      show _ = some (Out.nx [.bor tx, .own (.list (acc.map encP ++ [.tuple [.int (s : Nat), .int ((s + p.length : Nat) : Int)]])), .val (.int ((s + p.length + 1 : Nat) : Int)), .val (tS p)])
      have c1 : ((s + p.length : Nat) : Int) = (s : Int) + (p.length : Int) := by omega
      have c2 : ((s + p.length + 1 : Nat) : Int) = (s : Int) + (p.length : Int) + 1 := by omega
      rw [c1, c2]
      unfold L__law_paragraphs_1
      generalize acc.map encP = A at *
      generalize tS p = TP at *
      generalize (p.length : Int) = pl at *
      push_cast only [ln, l1, le2]
    rw [List.map_cons, forGo, hg, Option.bind_some, st, Option.bind_some]
    simp only []
    rw [e, rowsV, List.append_assoc]; rfl
theorem spN_mlen : ∀ (l acc : List Nat), (spN acc l).length ≤ l.length + 1 ∧ ∀ p ∈ spN acc l, p.length ≤ acc.length + l.length
  | [], acc => ⟨by simp [spN], fun p hp => by rw [spN, List.mem_singleton] at hp; subst hp; simp⟩
  | c :: r, acc => by
    rw [spN]
    split
    · obtain ⟨h1, h2⟩ := spN_mlen r []
      refine ⟨by simp; omega, fun p hp => ?_⟩
      rcases List.mem_cons.mp hp with rfl | hp
      · omega
      · have := h2 p hp; simp at this ⊢; omega
    · obtain ⟨h1, h2⟩ := spN_mlen r (acc ++ [c])
      refine ⟨by simp; omega, fun p hp => ?_⟩
      have := h2 p hp; simp at this ⊢; omega
theorem lpara_eq63 (T : List Nat) (lT : T.length ≤ 4000) : F__law_paragraphs [tS T] = some (.list ((rowsV 0 (spN [] T)).map encP)) := by
  obtain ⟨h1, h2⟩ := spN_mlen T []
  obtain ⟨s2, s3, e⟩ := lparaGo (tS T) (spN [] T) 0 [] .un (fun p hp => by have := h2 p hp; simp at this; omega) (by simp; omega)
  have sp := split_tS T (by omega)
  rw [List.nil_append] at e
  simp only [List.map_nil] at e
  refine box_rt rfl ?_
  show B__law_paragraphs [.bor (tS T), .un, .un, .un] = _
  unfold B__law_paragraphs
  rw [lit_nl]
  rw [seq_nx (ρ' := [.bor (tS T), .own (.list []), .un, .un]) (by push_cast only [size_le])]
  rw [seq_nx (ρ' := [.bor (tS T), .own (.list []), .val (.int (0 : Nat)), .un]) (by push_cast only []; rfl)]
  rw [seq_nx ((sFor_eq (ds := (spN [] T).map tS) (by push_cast only [sp])).trans e)]
  rfl


/-! ### the law's measures of a text -/
def extS (s : Int) (l : List Nat) : Int := sumU l * s
theorem rng_at (T : List Nat) (a k n : Nat) (h : k < n) (h2 : a + n ≤ T.length) : ((T.drop a).take n)[k]? = some (T.getD (a + k) 0) := by
  rw [List.getElem?_take, if_pos h, List.getElem?_drop, List.getD_eq_getElem?_getD, List.getElem?_eq_getElem (by omega)]; rfl
def mxE (s : Int) (m : Int) (l : List Nat) : Int := max m (extS s l)
/-! ### the law's lines are those of the units -/
structure It where
  c : Int
  a : Nat
  b : Nat
def itU (u : Un) : It := ⟨u.c, u.a.toNat, u.b.toNat⟩
def exO (T : List Nat) (sc : Int) (a b : Nat) : Int := (offV T sc).getD b 0 - (offV T sc).getD a 0
section
variable (gap : Int) (tx : Int → Option (List Nat)) (W : Int → Int) (sc : Int → Int)
def pcS (l : List Pc) (i : It) : List Pc := match tx i.c with
  | some T => match l.getLast? with
    | none => [⟨i.c, (i.a : Nat), (i.b : Nat), 0, exO T (sc i.c) i.a i.b⟩]
    | some p => if p.c = i.c then l.dropLast ++ [⟨i.c, p.a, (i.b : Nat), p.l, exO T (sc i.c) p.a.toNat i.b⟩] else l ++ [⟨i.c, (i.a : Nat), (i.b : Nat), p.l + p.w + gap, exO T (sc i.c) i.a i.b⟩]
  | none => match l.getLast? with
    | none => [⟨i.c, 0, 0, 0, W i.c⟩]
    | some p => l ++ [⟨i.c, 0, 0, p.l + p.w + gap, W i.c⟩]
def pcs (is : List It) : List Pc := is.foldl (pcS gap tx W sc) []
def lawS (rm : Option Int) (s : List (List It) × List It) (u : Un) : List (List It) × List It :=
  if u.kd = 1 then (s.1 ++ [if s.2 = [] then [itU u] else s.2], [])
  else if s.2 ≠ [] ∧ over rm (lwP (pcs gap tx W sc (s.2 ++ [itU u]))) = true then (s.1 ++ [s.2], [itU u]) else (s.1, s.2 ++ [itU u])
theorem pcS_ne (l : List Pc) (i : It) : pcS gap tx W sc l i ≠ [] := by
  unfold pcS
  split
  · split
    · simp
    · split <;> simp
  · split <;> simp
theorem pcs_snoc (is : List It) (i : It) : pcs gap tx W sc (is ++ [i]) = pcS gap tx W sc (pcs gap tx W sc is) i := by
  unfold pcs; rw [List.foldl_append]; rfl
theorem pcs_nil (is : List It) : pcs gap tx W sc is = [] ↔ is = [] := by
  constructor
  · intro h
    rcases List.eq_nil_or_concat is with rfl | ⟨A, i, rfl⟩
    · rfl
    · rw [List.concat_eq_append, pcs_snoc] at h
      exact absurd h (pcS_ne _ _ _ _ _ _)
  · rintro rfl; rfl
structure LRel (s : List (List It) × List It) (t : List (List Pc) × List Pc) : Prop where
  ls : s.1.map (pcs gap tx W sc) = t.1
  li : pcs gap tx W sc s.2 = t.2
def LastOk (T : List Nat) (c : Int) (la : Option Nat) (l : List Pc) : Prop := ∀ p, l.getLast? = some p → p.c = c → la = some p.b.toNat ∧ p.w = exO T (sc c) p.a.toNat p.b.toNat
variable {gap tx W sc}
theorem lwP_snoc (l : List Pc) (p : Pc) : lwP (l ++ [p]) = p.l + p.w := by unfold lwP; rw [List.getLast?_concat]
theorem lwP_add (u : Un) (l : List Pc) (q : Pc) : lwP (addP gap u (l ++ [q])) = leftP gap u q + u.w := by
  unfold addP
  rw [List.getLast?_concat, List.dropLast_concat]
  simp only []
  by_cases h : onP u q = true
  · rw [if_pos h, lwP_snoc]
    show q.l + (leftP gap u q + u.w - q.l) = _
    omega
  · rw [if_neg h, lwP_snoc]
theorem LRel.emp {s : List (List It) × List It} {t : List (List Pc) × List Pc} (r : LRel gap tx W sc s t) : s.2 = [] ↔ t.2 = [] := by
  rw [← r.li]; exact (pcs_nil gap tx W sc s.2).symm
theorem lstep (rm : Option Int) {s : List (List It) × List It} {t : List (List Pc) × List Pc} (r : LRel gap tx W sc s t) {u : Un} (hk : u.kd ≠ 1) (ha : pcS gap tx W sc t.2 (itU u) = addP gap u t.2) (hn : pcS gap tx W sc [] (itU u) = [⟨u.c, u.a, u.b, 0, u.w⟩]) : LRel gap tx W sc (lawS gap tx W sc rm s u) (stpP rm gap t u) := by
  have key : (s.2 ≠ [] ∧ over rm (lwP (pcs gap tx W sc (s.2 ++ [itU u]))) = true) ↔ cutP rm gap u t.2 = true := by
    rw [pcs_snoc, r.li, ha]
    rcases List.eq_nil_or_concat t.2 with h | ⟨A, q, h⟩
    · rw [h]
      constructor
      · rintro ⟨h1, _⟩; exact absurd (r.emp.mpr h) h1
      · intro h1; cases h1
    · rw [List.concat_eq_append] at h
      have c : cutP rm gap u t.2 = over rm (leftP gap u q + u.w) := by unfold cutP; rw [h, List.getLast?_concat]
      rw [c, h, lwP_add]
      constructor
      · rintro ⟨_, h2⟩; exact h2
      · intro h2
        exact ⟨fun z => by rw [r.emp.mp z] at h; simp at h, h2⟩
  unfold lawS stpP
  rw [if_neg hk, if_neg hk]
  by_cases c : cutP rm gap u t.2 = true
  · rw [if_pos (key.mpr c), if_pos c]
    exact ⟨by rw [List.map_append, r.ls, List.map_cons, r.li]; rfl, hn⟩
  · rw [if_neg fun z => c (key.mp z), if_neg c]
    exact ⟨r.ls, by rw [pcs_snoc, r.li, ha]⟩
theorem lbrk (rm : Option Int) {s : List (List It) × List It} {t : List (List Pc) × List Pc} (r : LRel gap tx W sc s t) {u : Un} (hk : u.kd = 1) (hn : pcS gap tx W sc [] (itU u) = [⟨u.c, u.a, u.b, 0, 0⟩]) : LRel gap tx W sc (lawS gap tx W sc rm s u) (stpP rm gap t u) := by
  unfold lawS stpP
  rw [if_pos hk, if_pos hk]
  refine ⟨?_, rfl⟩
  rw [List.map_append, r.ls]
  by_cases h : s.2 = []
  · rw [if_pos h, if_pos (r.emp.mp h)]
    show _ ++ [pcs gap tx W sc [itU u]] = _
    exact congrArg (fun x => t.1 ++ [x]) hn
  · rw [if_neg h, if_neg fun z => h (r.emp.mpr z)]
    show _ ++ [pcs gap tx W sc s.2] = _
    rw [r.li]
def LastIn (D : Int → Prop) (l : List Pc) : Prop := ∀ p, l.getLast? = some p → D p.c
theorem stp_last (rm : Option Int) (t : List (List Pc) × List Pc) (u : Un) (hk : u.kd ≠ 1) : ∃ A q, (stpP rm gap t u).2 = A ++ [q] ∧ q.c = u.c ∧ q.b = u.b ∧ ((q.a = u.a ∧ q.w = u.w) ∨ ∃ p, t.2.getLast? = some p ∧ onP u p = true ∧ q.a = p.a ∧ q.w = leftP gap u p + u.w - p.l) := by
  unfold stpP
  rw [if_neg hk]
  by_cases c : cutP rm gap u t.2 = true
  · rw [if_pos c]
    exact ⟨[], ⟨u.c, u.a, u.b, 0, u.w⟩, rfl, rfl, rfl, .inl ⟨rfl, rfl⟩⟩
  · rw [if_neg c]
    show ∃ A q, addP gap u t.2 = A ++ [q] ∧ _
    unfold addP
    cases h : t.2.getLast? with
    | none => exact ⟨[], ⟨u.c, u.a, u.b, 0, u.w⟩, rfl, rfl, rfl, .inl ⟨rfl, rfl⟩⟩
    | some p =>
      simp only []
      by_cases o : onP u p = true
      · rw [if_pos o]
        exact ⟨_, ⟨u.c, p.a, u.b, p.l, leftP gap u p + u.w - p.l⟩, rfl, rfl, rfl, .inr ⟨p, rfl, o, rfl, rfl⟩⟩
      · rw [if_neg o]
        exact ⟨_, ⟨u.c, u.a, u.b, leftP gap u p, u.w⟩, rfl, rfl, rfl, .inl ⟨rfl, rfl⟩⟩
theorem lword (rm : Option Int) {s : List (List It) × List It} {t : List (List Pc) × List Pc} (r : LRel gap tx W sc s t) {T : List Nat} {c : Int} (ht : tx c = some T) {la : Option Nat} (hl : LastOk sc T c la t.2) (p : Nat × Nat) {u : Un} (hu : u = ⟨0, c, (p.1 : Nat), (p.2 : Nat), (offV T (sc c)).getD p.2 0 - (offV T (sc c)).getD p.1 0, spU (offV T (sc c)) la p.1⟩) :
    LRel gap tx W sc (lawS gap tx W sc rm s u) (stpP rm gap t u) ∧ LastOk sc T c (some p.2) (stpP rm gap t u).2 ∧ LastIn (fun x => x = c) (stpP rm gap t u).2 := by
  have hk : u.kd ≠ 1 := by rw [hu]; show (0 : Nat) ≠ 1; decide
  have iu : itU u = ⟨c, p.1, p.2⟩ := by rw [hu]; rfl
  have hw : u.w = exO T (sc c) p.1 p.2 := by rw [hu]; rfl
  have hc : u.c = c := by rw [hu]
  have hon : ∀ q : Pc, onP u q = decide (q.c = c) := fun q => by rw [hu]; rfl
  have hsp : u.sp = spU (offV T (sc c)) la p.1 := by rw [hu]
  have ua : u.a = (p.1 : Nat) := by rw [hu]
  have ub : u.b = (p.2 : Nat) := by rw [hu]
  have grow : ∀ q, t.2.getLast? = some q → q.c = c → leftP gap u q + u.w - q.l = exO T (sc c) q.a.toNat p.2 := fun q h1 h2 => by
    obtain ⟨h3, h4⟩ := hl q h1 h2
    have e : u.sp = (offV T (sc c)).getD p.1 0 - (offV T (sc c)).getD q.b.toNat 0 := by rw [hsp, h3]; rfl
    unfold leftP
    rw [hon, decide_eq_true h2, if_pos rfl, h4, hw, e]
    unfold exO
    omega
  have ha : pcS gap tx W sc t.2 (itU u) = addP gap u t.2 := by
    unfold pcS addP
    rw [iu, ht]
    simp only []
    cases h : t.2.getLast? with
    | none => simp only []; rw [hw, hc, ua, ub]
    | some q =>
      simp only []
      rw [hon]
      by_cases z : q.c = c
      · rw [if_pos z, decide_eq_true z, if_pos rfl, grow q h z, hc, ub]
      · rw [if_neg z, decide_eq_false z, if_neg (by decide), hw, hc, ua, ub]
        unfold leftP
        rw [hon, decide_eq_false z, if_neg (by decide)]
  have hn : pcS gap tx W sc [] (itU u) = [⟨u.c, u.a, u.b, 0, u.w⟩] := by
    unfold pcS
    rw [iu, ht, hw, hc, ua, ub]; rfl
  obtain ⟨A, q, e, q1, q2, q3⟩ := stp_last (gap := gap) rm t u hk
  refine ⟨lstep rm r hk ha hn, ?_, ?_⟩
  · intro x hx _
    rw [e, List.getLast?_concat] at hx
    cases hx
    rw [q2, ub, Int.toNat_natCast]
    refine ⟨rfl, ?_⟩
    rcases q3 with ⟨h1, h2⟩ | ⟨p', h1, h2, h3, h4⟩
    · rw [h1, h2, hw, ua]; rfl
    · rw [h3, h4]
      exact grow p' h1 (by rw [hon] at h2; exact of_decide_eq_true h2)
  · intro x hx
    rw [e, List.getLast?_concat] at hx
    cases hx
    exact q1.trans hc
theorem lwords_rel (rm : Option Int) {T : List Nat} {c : Int} (ht : tx c = some T) : ∀ (ps : List (Nat × Nat)) (la : Option Nat) (s : List (List It) × List It) (t : List (List Pc) × List Pc), LRel gap tx W sc s t → LastOk sc T c la t.2 → LastIn (fun x => x = c) t.2 ∨ ps ≠ [] ∨ True →
    LRel gap tx W sc ((wordU c (offV T (sc c)) la ps).foldl (lawS gap tx W sc rm) s) ((wordU c (offV T (sc c)) la ps).foldl (stpP rm gap) t) ∧ (∀ D : Int → Prop, LastIn D t.2 → LastIn (fun x => D x ∨ x = c) ((wordU c (offV T (sc c)) la ps).foldl (stpP rm gap) t).2)
  | [], la, s, t, r, hl, _ => ⟨r, fun D hD p hp => .inl (hD p hp)⟩
  | p :: ps, la, s, t, r, hl, _ => by
    obtain ⟨r1, l1, i1⟩ := lword rm r ht hl p rfl
    obtain ⟨r2, i2⟩ := lwords_rel rm ht ps (some p.2) _ _ r1 l1 (.inr (.inr trivial))
    refine ⟨r2, fun D hD => ?_⟩
    have := i2 (fun x => x = c) i1
    intro q hq
    exact (this q hq).elim .inr .inr
theorem lrows_rel (rm : Option Int) {T : List Nat} {c : Int} (ht : tx c = some T) : ∀ (R : List (Nat × Nat)) (be : Option Nat) (s : List (List It) × List It) (t : List (List Pc) × List Pc), LRel gap tx W sc s t → (be = none → LastOk sc T c none t.2) →
    LRel gap tx W sc ((rowU c T (offV T (sc c)) be R).foldl (lawS gap tx W sc rm) s) ((rowU c T (offV T (sc c)) be R).foldl (stpP rm gap) t) ∧ (∀ D : Int → Prop, LastIn D t.2 → LastIn (fun x => D x ∨ x = c) ((rowU c T (offV T (sc c)) be R).foldl (stpP rm gap) t).2)
  | [], be, s, t, r, hl => ⟨r, fun D hD p hp => .inl (hD p hp)⟩
  | x :: R, be, s, t, r, hl => by
    have hr : rowU c T (offV T (sc c)) be (x :: R) = brkU c be ++ (wordU c (offV T (sc c)) none (wds T x.1 x.2) ++ rowU c T (offV T (sc c)) (some x.1) R) := rfl
    rw [hr, List.foldl_append, List.foldl_append, List.foldl_append, List.foldl_append]
    have hb : LRel gap tx W sc ((brkU c be).foldl (lawS gap tx W sc rm) s) ((brkU c be).foldl (stpP rm gap) t) ∧ LastOk sc T c none ((brkU c be).foldl (stpP rm gap) t).2 ∧ (∀ D : Int → Prop, LastIn D t.2 → LastIn D ((brkU c be).foldl (stpP rm gap) t).2) := by
      cases be with
      | none => exact ⟨r, hl rfl, fun D hD => hD⟩
      | some b =>
        have k : (stpP rm gap t ⟨1, c, (b : Nat), (b : Nat), 0, 0⟩).2 = [] := by unfold stpP; rw [if_pos rfl]
        refine ⟨lbrk rm r (u := ⟨1, c, (b : Nat), (b : Nat), 0, 0⟩) rfl ?_, ?_, ?_⟩
        · unfold pcS
          show (match tx c with | some T => _ | none => _) = _
          rw [ht]
          show [_] = [_]
          have : exO T (sc c) b b = 0 := by unfold exO; omega
          show [(⟨c, (b : Nat), (b : Nat), 0, exO T (sc c) b b⟩ : Pc)] = _
          rw [this]
        · show LastOk sc T c none (stpP rm gap t ⟨1, c, (b : Nat), (b : Nat), 0, 0⟩).2
          rw [k]; intro p hp; cases hp
        · intro D _
          show LastIn D (stpP rm gap t ⟨1, c, (b : Nat), (b : Nat), 0, 0⟩).2
          rw [k]; intro p hp; cases hp
    obtain ⟨b1, b2, b3⟩ := hb
    obtain ⟨w1, w2⟩ := lwords_rel rm ht (wds T x.1 x.2) none _ _ b1 b2 (.inr (.inr trivial))
    obtain ⟨z1, z2⟩ := lrows_rel rm ht R (some x.1) _ _ w1 (fun z => by cases z)
    refine ⟨z1, fun D hD => ?_⟩
    intro q hq
    rcases z2 _ (w2 D (b3 D hD)) q hq with (h | h) | h
    · exact .inl h
    · exact .inr h
    · exact .inr h
theorem lbox_rel (rm : Option Int) {c : Int} (ht : tx c = none) {s : List (List It) × List It} {t : List (List Pc) × List Pc} (r : LRel gap tx W sc s t) : LRel gap tx W sc (lawS gap tx W sc rm s ⟨2, c, 0, 0, W c, 0⟩) (stpP rm gap t ⟨2, c, 0, 0, W c, 0⟩) ∧ LastIn (fun x => x = c) (stpP rm gap t ⟨2, c, 0, 0, W c, 0⟩).2 := by
  have hk : (⟨2, c, 0, 0, W c, 0⟩ : Un).kd ≠ 1 := by show (2 : Nat) ≠ 1; decide
  have ho : ∀ q, onP ⟨2, c, 0, 0, W c, 0⟩ q = false := fun q => rfl
  have ha : ∀ l, pcS gap tx W sc l (itU ⟨2, c, 0, 0, W c, 0⟩) = addP gap ⟨2, c, 0, 0, W c, 0⟩ l := fun l => by
    unfold pcS addP
    show (match tx c with | some T => _ | none => _) = _
    rw [ht]
    simp only []
    cases l.getLast? with
    | none => rfl
    | some q =>
      simp only []
      rw [ho, if_neg (by decide)]
      unfold leftP
      rw [ho, if_neg (by decide)]
      rfl
  obtain ⟨A, q, e, q1, _⟩ := stp_last (gap := gap) rm t ⟨2, c, 0, 0, W c, 0⟩ hk
  refine ⟨lstep rm r hk (ha _) (ha []), ?_⟩
  intro x hx
  rw [e, List.getLast?_concat] at hx
  cases hx
  exact q1
noncomputable def chU (tx : Int → Option (List Nat)) (W : Int → Int) (sc : Int → Int) (c : Int) : List Un := match tx c with
  | some T => txtU c T (sc c)
  | none => [⟨2, c, 0, 0, W c, 0⟩]
theorem lall_rel (rm : Option Int) : ∀ (cs : List Int) (D : Int → Prop) (s : List (List It) × List It) (t : List (List Pc) × List Pc), LRel gap tx W sc s t → LastIn D t.2 → (∀ c ∈ cs, ¬ D c) → cs.Nodup →
    LRel gap tx W sc ((cs.flatMap (chU tx W sc)).foldl (lawS gap tx W sc rm) s) ((cs.flatMap (chU tx W sc)).foldl (stpP rm gap) t)
  | [], D, s, t, r, _, _, _ => r
  | c :: cs, D, s, t, r, hD, hn, nd => by
    rw [List.nodup_cons] at nd
    rw [List.flatMap_cons, List.foldl_append, List.foldl_append]
    have hc := hn c List.mem_cons_self
    have one : LRel gap tx W sc ((chU tx W sc c).foldl (lawS gap tx W sc rm) s) ((chU tx W sc c).foldl (stpP rm gap) t) ∧ LastIn (fun x => D x ∨ x = c) ((chU tx W sc c).foldl (stpP rm gap) t).2 := by
      unfold chU
      cases ht : tx c with
      | some T =>
        obtain ⟨r1, r2⟩ := lrows_rel rm ht (rowsV 0 (spN [] T)) none s t r (fun _ p hp hpc => absurd (hpc ▸ hD p hp) hc)
        exact ⟨r1, r2 D hD⟩
      | none =>
        obtain ⟨r1, r2⟩ := lbox_rel rm ht r
        exact ⟨r1, fun p hp => .inr (r2 p hp)⟩
    exact lall_rel rm cs (fun x => D x ∨ x = c) _ _ one.1 one.2 (fun d hd => by
      rintro (h | h)
      · exact hn d (List.mem_cons_of_mem _ hd) h
      · rw [h] at hd; exact nd.1 hd) nd.2
noncomputable def lawL (gap : Int) (tx : Int → Option (List Nat)) (W : Int → Int) (sc : Int → Int) (rm : Option Int) (us : List Un) : List (List It) :=
  if (us.foldl (lawS gap tx W sc rm) ([], [])).2 = [] then (us.foldl (lawS gap tx W sc rm) ([], [])).1 else (us.foldl (lawS gap tx W sc rm) ([], [])).1 ++ [(us.foldl (lawS gap tx W sc rm) ([], [])).2]
theorem lawL_eq (rm : Option Int) (cs : List Int) (nd : cs.Nodup) : (lawL gap tx W sc rm (cs.flatMap (chU tx W sc))).map (pcs gap tx W sc) = setP rm gap (cs.flatMap (chU tx W sc)) := by
  have r := lall_rel (gap := gap) (tx := tx) (W := W) (sc := sc) rm cs (fun _ => False) ([], []) ([], []) ⟨rfl, rfl⟩ (fun p hp => by cases hp) (fun c _ h => h) nd
  unfold lawL setP
  have e := r.emp
  have h1 := r.ls
  have h2 := r.li
  by_cases h : ((cs.flatMap (chU tx W sc)).foldl (lawS gap tx W sc rm) ([], [])).2 = []
  · rw [if_pos h, if_pos (e.mp h), h1]
  · rw [if_neg h, if_neg fun z => h (e.mpr z), List.map_append, h1, List.map_cons, h2]; rfl
end


/-! ### the law's pieces -/
def encIt (i : It) : PyData := .tuple [.int i.c, .int (i.a : Nat), .int (i.b : Nat)]
structure DOk (TX WD SD : PyData) (tx : Int → Option (List Nat)) (W : Int → Int) (sc : Int → Int) (c : Int) : Prop where
  din : oDIn (.int c) TX = some (.bool (tx c).isSome)
  t : ∀ T, tx c = some T → oDGet TX (.int c) = some (tS T) ∧ oDGet SD (.int c) = some (.int (sc c)) ∧ Asc T ∧ T.length ≤ 4000
  w : tx c = none → oDGet WD (.int c) = some (.int (W c))
def ItOk (tx : Int → Option (List Nat)) (l : List Pc) (i : It) : Prop := ∀ T, tx i.c = some T → i.a ≤ i.b ∧ i.b ≤ T.length ∧ ∀ p, l.getLast? = some p → p.c = i.c → 0 ≤ p.a ∧ p.a.toNat ≤ i.b
section
variable {gap : Int} {tx : Int → Option (List Nat)} {W : Int → Int} {sc : Int → Int} {TX WD SD : PyData}
def RPc (U TX WD SD : PyData) (gap : Int) (L : List PyData) (i : It) (s9 s10 : Slot) : Rho := [.bor U, .bor TX, .bor WD, .bor SD, .bor (.int gap), .own (.list L), .val (.int i.c), .val (.int (i.a : Nat)), .val (.int (i.b : Nat)), s9, s10]
theorem slx (T : List Nat) (aT : Asc T) (lT : T.length ≤ 4000) (sc : Int) (a b : Nat) (h1 : a ≤ b) (h2 : b ≤ T.length) : ∃ d, oSl (tS T) (some (a : Nat)) (some (b : Nat)) = some d ∧ F__law_extent [d, .int sc] = some (.int (exO T sc a b)) := ⟨_, tSl T _ _ (by omega), cut_ext T lT aT sc a b h1 h2⟩
theorem lp_step (U : PyData) (l : List Pc) (i : It) (s9 s10 : Slot) (k : DOk TX WD SD tx W sc i.c) (ok : ItOk tx l i) (hl : l.length < 100000) :
    ∃ t9 t10, L__law_pieces_1 (RPc U TX WD SD gap (l.map encPc) i s9 s10) = some (.nx (RPc U TX WD SD gap ((pcS gap tx W sc l i).map encPc) i t9 t10)) := by
  have lt : (l.map encPc).length < sizeLine := by rw [List.length_map, sizeLine_eq]; omega
  have le5 : 5 ≤ sizeLine := size_le (by decide)
  have n1 : oNeg (.int 1) = some (.int (-1)) := rfl
  have din := k.din
  obtain ⟨R, hR⟩ : ∃ R : Int, R = match l.getLast? with | none => 0 | some p => p.l + p.w + gap := ⟨_, rfl⟩
  have e1 : (sSeqn (sSet 9 (eK (.int 0))) (sIf (bT (eOp oGt (eCall cLen (aCons (eB 5) aNil)) (eK (.int 0)))) (sSet 9 (eOp oAdd (eOp oAdd (eOp oIx (eOp oIx (eB 5) (eUn oNeg (eK (.int 1)))) (eK (.int 3))) (eOp oIx (eOp oIx (eB 5) (eUn oNeg (eK (.int 1)))) (eK (.int 4)))) (eB 4))) sNext)) (RPc U TX WD SD gap (l.map encPc) i s9 s10) = some (.nx (RPc U TX WD SD gap (l.map encPc) i (.val (.int R)) s10)) := by
    refine sqN (ρ' := RPc U TX WD SD gap (l.map encPc) i (.val (.int 0)) s10) rfl ?_
    rcases List.eq_nil_or_concat l with rfl | ⟨A, p, rfl⟩
    · have : R = 0 := hR
      rw [this]
      have lc : cLen [.list (([] : List Pc).map encPc)] = some (.int 0) := rfl
      rw [sqIf_f (by unfold RPc; generalize ([] : List Pc).map encPc = LL at *; push_cast only [lc, Int.lt_irrefl, decide_false])]; rfl
    · rw [List.concat_eq_append] at *
      have : R = p.l + p.w + gap := by rw [hR, List.getLast?_concat]
      rw [this]
      have em : (A ++ [p]).map encPc = A.map encPc ++ [encPc p] := by rw [List.map_append]; rfl
      have ix : oIx (.list ((A ++ [p]).map encPc)) (.int (-1)) = some (encPc p) := by rw [em]; exact atI_last _ _
      have x3 : oIx (encPc p) (.int 3) = some (.int p.l) := rfl
      have x4 : oIx (encPc p) (.int 4) = some (.int p.w) := rfl
      have lc : cLen [.list ((A ++ [p]).map encPc)] = some (.int (((A ++ [p]).map encPc).length : Nat)) := cLen_l
      have d0 : decide ((0 : Int) < (((A ++ [p]).map encPc).length : Nat)) = true := decide_eq_true (by rw [List.length_map, List.length_append]; simp)
      generalize (A ++ [p]).map encPc = LL at *
      generalize encPc p = EP at *
      rw [sqIf_t (by unfold RPc; push_cast only [lc, d0])]
      unfold RPc
      push_cast only [ix, x3, x4, n1]
  have asc : ∀ X Y Z : SS, sSeqn X (sSeqn Y Z) = sSeqn (sSeqn X Y) Z := fun X Y Z => by
    funext ρ
    rw [sSeqn_r, sSeqn_r, sSeqn_r]
    cases X ρ with
    | none => rfl
    | some o => cases o <;> rfl
  unfold L__law_pieces_1
  rw [asc]
  cases ht : tx i.c with
  | none =>
    rw [ht] at din
    have din : oDIn (.int i.c) TX = some (.bool false) := din
    have gw := k.w ht
    refine ⟨.val (.int R), s10, sqN e1 ?_⟩
    have e : (pcS gap tx W sc l i).map encPc = l.map encPc ++ [.tuple [.int i.c, .int 0, .int 0, .int R, .int (W i.c)]] := by
      unfold pcS
      rw [ht]
      simp only []
      cases hx : l.getLast? with
      | none =>
        rw [hx] at hR
        have := List.getLast?_eq_none_iff.mp hx
        rw [this, hR]; rfl
      | some p =>
        rw [hx] at hR
        rw [hR, List.map_append]; rfl
    rw [e]
    rw [sqIf_f (by unfold RPc; push_cast only [din]), sqIf_f (by unfold RPc; push_cast only [din])]
    unfold RPc
    generalize l.map encPc = LL at *
    push_cast only [gw, le5, lt, fApp_r]
  | some T =>
    rw [ht] at din
    have din : oDIn (.int i.c) TX = some (.bool true) := din
    obtain ⟨gt, gs, aT, lT⟩ := k.t T ht
    obtain ⟨o1, o2, o3⟩ := ok T ht
    have app : ∀ (LL : List PyData), LL.length < sizeLine → (sIf (bT (eOp oDIn (eB 6) (eB 1))) (sMut fApp 5 (aCons (eTup (aCons (eV 6) (aCons (eV 7) (aCons (eV 8) (aCons (eV 9) (aCons (eCall F__law_extent (aCons (eSl oSl (eOp oDGet (eB 1) (eB 6)) (oSo (eV 7)) (oSo (eV 8))) (aCons (eOp oDGet (eB 3) (eB 6)) aNil))) aNil)))))) aNil)) (sMut fApp 5 (aCons (eTup (aCons (eV 6) (aCons (eK (.int 0)) (aCons (eK (.int 0)) (aCons (eV 9) (aCons (eOp oDGet (eB 2) (eB 6)) aNil)))))) aNil))) (RPc U TX WD SD gap LL i (.val (.int R)) s10) = some (.nx (RPc U TX WD SD gap (LL ++ [.tuple [.int i.c, .int (i.a : Nat), .int (i.b : Nat), .int R, .int (exO T (sc i.c) i.a i.b)]]) i (.val (.int R)) s10)) := fun LL lt => by
      obtain ⟨d, sl, ex⟩ := slx T aT lT (sc i.c) i.a i.b o1 o2
      rw [sqIf_t (by unfold RPc; push_cast only [din])]
      unfold RPc
      generalize tS T = TT at *
      generalize exO T (sc i.c) i.a i.b = EX at *
      push_cast only [gt, gs, sl, ex, le5, lt, fApp_r]
    rcases List.eq_nil_or_concat l with rfl | ⟨A, p, rfl⟩
    · refine ⟨.val (.int R), s10, sqN e1 ?_⟩
      have lc : cLen [.list (([] : List Pc).map encPc)] = some (.int 0) := rfl
      have e : (pcS gap tx W sc [] i).map encPc = ([] : List Pc).map encPc ++ [.tuple [.int i.c, .int (i.a : Nat), .int (i.b : Nat), .int R, .int (exO T (sc i.c) i.a i.b)]] := by
        unfold pcS
        rw [ht, hR]; rfl
      rw [e]
      generalize ([] : List Pc).map encPc = LL at *
      rw [sqIf_f (by unfold RPc; push_cast only [din, lc, Int.lt_irrefl, decide_false])]
      exact app LL lt
    · rw [List.concat_eq_append] at *
      have em : (A ++ [p]).map encPc = A.map encPc ++ [encPc p] := by rw [List.map_append]; rfl
      have ix : oIx (.list ((A ++ [p]).map encPc)) (.int (-1)) = some (encPc p) := by rw [em]; exact atI_last _ _
      have x0 : oIx (encPc p) (.int 0) = some (.int p.c) := rfl
      have x1 : oIx (encPc p) (.int 1) = some (.int p.a) := rfl
      have x3 : oIx (encPc p) (.int 3) = some (.int p.l) := rfl
      have lc : cLen [.list ((A ++ [p]).map encPc)] = some (.int (((A ++ [p]).map encPc).length : Nat)) := cLen_l
      have d0 : decide ((0 : Int) < (((A ++ [p]).map encPc).length : Nat)) = true := decide_eq_true (by rw [List.length_map, List.length_append]; simp)
      by_cases z : p.c = i.c
      · obtain ⟨q1, q2⟩ := o3 p (List.getLast?_concat ..) z
        obtain ⟨d, sl, ex⟩ := slx T aT lT (sc i.c) p.a.toNat i.b q2 o2
        rw [Int.toNat_of_nonneg q1] at sl
        refine ⟨.val (.int R), .val (.int p.a), sqN e1 ?_⟩
        have e : pcS gap tx W sc (A ++ [p]) i = A ++ [⟨i.c, p.a, (i.b : Nat), p.l, exO T (sc i.c) p.a.toNat i.b⟩] := by
          unfold pcS
          rw [ht, List.getLast?_concat, List.dropLast_concat]
          simp only []
          rw [if_pos z]
        have fs : fSet ((A ++ [p]).map encPc) [.int (-1), encPc ⟨i.c, p.a, (i.b : Nat), p.l, exO T (sc i.c) p.a.toNat i.b⟩] = some (.list ((A ++ [(⟨i.c, p.a, (i.b : Nat), p.l, exO T (sc i.c) p.a.toNat i.b⟩ : Pc)]).map encPc)) := by
          have g4 : ixN ((A ++ [p]).map encPc).length (-1) = some A.length := by rw [List.length_map]; exact ix_last A p
          unfold fSet
          simp only []
          rw [g4]
          simp
        rw [← e] at fs
        have ey : encPc ⟨i.c, p.a, (i.b : Nat), p.l, exO T (sc i.c) p.a.toNat i.b⟩ = .tuple [.int i.c, .int p.a, .int (i.b : Nat), .int p.l, .int (exO T (sc i.c) p.a.toNat i.b)] := rfl
        rw [ey] at fs
        generalize (pcS gap tx W sc (A ++ [p]) i).map encPc = LN at *
        generalize (A ++ [p]).map encPc = LL at *
        have cz : decide (p.c = i.c) = true := decide_eq_true z
        rw [sqIf_t (by unfold RPc; generalize encPc p = EP at *; push_cast only [din, lc, d0, ix, n1, x0, cz])]
        refine sqN (ρ' := RPc U TX WD SD gap LL i (.val (.int R)) (.val (.int p.a))) (by unfold RPc; generalize encPc p = EP at *; push_cast only [ix, n1, x1]) ?_
        have hv : eTup (aCons (eV 6) (aCons (eV 10) (aCons (eV 8) (aCons (eOp oIx (eOp oIx (eB 5) (eUn oNeg (eK (.int 1)))) (eK (.int 3))) (aCons (eCall F__law_extent (aCons (eSl oSl (eOp oDGet (eB 1) (eB 6)) (oSo (eV 10)) (oSo (eV 8))) (aCons (eOp oDGet (eB 3) (eB 6)) aNil))) aNil))))) (RPc U TX WD SD gap LL i (.val (.int R)) (.val (.int p.a))) = some (.tuple [.int i.c, .int p.a, .int (i.b : Nat), .int p.l, .int (exO T (sc i.c) p.a.toNat i.b)]) := by
          unfold RPc
          generalize encPc p = EP at *
          generalize tS T = TT at *
          generalize exO T (sc i.c) p.a.toNat i.b = EX at *
          push_cast only [gt, gs, sl, ex, le5, ix, n1, x3]
        show sPut 5 _ _ _ = _
        unfold sPut
        rw [hv]
        unfold RPc
        simp only [Option.bind_some, List.getElem?_cons_succ, List.getElem?_cons_zero, eUn_r, eK_r, n1, fs]
        rfl
      · refine ⟨.val (.int R), s10, sqN e1 ?_⟩
        have cz : decide (p.c = i.c) = false := decide_eq_false z
        have e : (pcS gap tx W sc (A ++ [p]) i).map encPc = (A ++ [p]).map encPc ++ [.tuple [.int i.c, .int (i.a : Nat), .int (i.b : Nat), .int R, .int (exO T (sc i.c) i.a i.b)]] := by
          unfold pcS
          rw [ht, List.getLast?_concat]
          simp only []
          rw [if_neg z, List.map_append]
          rw [List.getLast?_concat] at hR
          rw [hR]; rfl
        rw [e]
        generalize (A ++ [p]).map encPc = LL at *
        rw [sqIf_f (by unfold RPc; generalize encPc p = EP at *; push_cast only [din, lc, d0, ix, n1, x0, cz])]
        exact app LL lt
end


def ItsOk (tx : Int → Option (List Nat)) (is : List It) : Prop := (∀ i ∈ is, ∀ T, tx i.c = some T → i.a ≤ i.b ∧ i.b ≤ T.length) ∧ is.Pairwise (fun x y => x.c = y.c → x.a ≤ y.b)
def PInv (tx : Int → Option (List Nat)) (l : List Pc) (D : List It) : Prop := ∀ p, l.getLast? = some p → ∃ x ∈ D, p.c = x.c ∧ ∀ T, tx x.c = some T → p.a = (x.a : Nat)
section
variable {gap : Int} {tx : Int → Option (List Nat)} {W : Int → Int} {sc : Int → Int} {TX WD SD : PyData}
theorem PInv.step {l : List Pc} {D : List It} (h : PInv tx l D) (i : It) : PInv tx (pcS gap tx W sc l i) (D ++ [i]) := by
  intro p hp
  unfold pcS at hp
  cases ht : tx i.c with
  | none =>
    rw [ht] at hp
    simp only [] at hp
    refine ⟨i, by simp, ?_, fun T hT => by rw [ht] at hT; cases hT⟩
    split at hp
    · cases hp; rfl
    · rw [List.getLast?_concat] at hp; cases hp; rfl
  | some T =>
    rw [ht] at hp
    simp only [] at hp
    split at hp
    · cases hp
      exact ⟨i, by simp, rfl, fun _ _ => rfl⟩
    · rename_i q hq
      split at hp
      · rename_i hc
        rw [List.getLast?_concat] at hp; cases hp
        obtain ⟨x, hx, h1, h2⟩ := h q hq
        exact ⟨x, List.mem_append_left _ hx, hc.symm.trans h1, h2⟩
      · rw [List.getLast?_concat] at hp; cases hp
        exact ⟨i, by simp, rfl, fun _ _ => rfl⟩
theorem pcS_len (l : List Pc) (i : It) : (pcS gap tx W sc l i).length ≤ l.length + 1 := by
  unfold pcS
  split
  · split
    · simp
    · split
      · simp [List.length_dropLast]
      · simp
  · split <;> simp
theorem lp_go (U : PyData) : ∀ (is : List It) (D : List It) (l : List Pc) (s6 s7 s8 s9 s10 : Slot), PInv tx l D → ItsOk tx (D ++ is) → (∀ i ∈ is, DOk TX WD SD tx W sc i.c) → l.length + is.length < 90000 →
    ∃ t6 t7 t8 t9 t10, forGo (gT 3 (gsCons (gV 6) (gsCons (gV 7) (gsCons (gV 8) gsNil)))) L__law_pieces_1 (is.map encIt) [.bor U, .bor TX, .bor WD, .bor SD, .bor (.int gap), .own (.list (l.map encPc)), s6, s7, s8, s9, s10] = some (.nx [.bor U, .bor TX, .bor WD, .bor SD, .bor (.int gap), .own (.list ((is.foldl (pcS gap tx W sc) l).map encPc)), t6, t7, t8, t9, t10])
  | [], D, l, s6, s7, s8, s9, s10, _, _, _, _ => ⟨s6, s7, s8, s9, s10, rfl⟩
  | i :: is, D, l, s6, s7, s8, s9, s10, hp, ho, hk, hl => by
    rw [List.length_cons] at hl
    have ok : ItOk tx l i := fun T hT => by
      obtain ⟨h1, h2⟩ := ho.1 i (by simp) T hT
      refine ⟨h1, h2, fun p hp' hc => ?_⟩
      obtain ⟨x, hx, g1, g2⟩ := hp p hp'
      have ea := g2 T (by rw [← g1, hc]; exact hT)
      have pw := (List.pairwise_append.mp ho.2).2.2 x hx i List.mem_cons_self (by rw [← g1, hc])
      rw [ea]
      exact ⟨by omega, by omega⟩
    obtain ⟨t9, t10, e⟩ := lp_step (gap := gap) U l i s9 s10 (hk i List.mem_cons_self) ok (by omega)
    have pl := pcS_len (gap := gap) (tx := tx) (W := W) (sc := sc) l i
    obtain ⟨u6, u7, u8, u9, u10, e2⟩ := lp_go U is (D ++ [i]) (pcS gap tx W sc l i) (.val (.int i.c)) (.val (.int (i.a : Nat))) (.val (.int (i.b : Nat))) t9 t10 (hp.step i) (by rw [List.append_assoc]; exact ho) (fun j hj => hk j (List.mem_cons_of_mem _ hj)) (by omega)
    refine ⟨u6, u7, u8, u9, u10, ?_⟩
    rw [List.map_cons, forGo, List.foldl_cons]
    have g : gT 3 (gsCons (gV 6) (gsCons (gV 7) (gsCons (gV 8) gsNil))) (encIt i) [.bor U, .bor TX, .bor WD, .bor SD, .bor (.int gap), .own (.list (l.map encPc)), s6, s7, s8, s9, s10] = some (RPc U TX WD SD gap (l.map encPc) i s9 s10) := rfl
    rw [g, Option.bind_some, e, Option.bind_some]
    exact e2
theorem lpieces_eq (is : List It) (ho : ItsOk tx is) (hk : ∀ i ∈ is, DOk TX WD SD tx W sc i.c) (hl : is.length < 80000) : F__law_pieces [.list (is.map encIt), TX, WD, SD, .int gap] = some (.list ((pcs gap tx W sc is).map encPc)) := by
  obtain ⟨t6, t7, t8, t9, t10, e⟩ := lp_go (gap := gap) (.list (is.map encIt)) is [] [] .un .un .un .un .un (fun p hp => by cases hp) ho hk (by rw [List.length_nil]; omega)
  refine box_rt rfl ?_
  show B__law_pieces [.bor (.list (is.map encIt)), .bor TX, .bor WD, .bor SD, .bor (.int gap), .un, .un, .un, .un, .un, .un] = _
  unfold B__law_pieces pcs
  refine sqN (ρ' := [.bor (.list (is.map encIt)), .bor TX, .bor WD, .bor SD, .bor (.int gap), .own (.list []), .un, .un, .un, .un, .un]) (by push_cast only [size_le]) ?_
  refine sqN ((sFor_eq (ds := is.map encIt) rfl).trans e) ?_
  rfl
end


section
variable {gap : Int}
theorem lwP_concat (A : List Pc) (p : Pc) : lwP (A ++ [p]) = p.l + p.w := by unfold lwP; rw [List.getLast?_concat]
end

/-! ### the law's lines -/
def encIL (is : List It) : PyData := .list (is.map encIt)
def RLn (OR TX WD SD RM : PyData) (gap : Int) (ls : List (List It)) (is : List It) (s8 s9 s10 s11 s12 s13 s14 s15 : Slot) : Rho := [.bor OR, .bor TX, .bor WD, .bor SD, .bor RM, .bor (.int gap), .own (.list (ls.map encIL)), .val (encIL is), s8, s9, s10, s11, s12, s13, s14, s15]
section
variable {gap : Int} {tx : Int → Option (List Nat)} {W : Int → Int} {sc : Int → Int} {TX WD SD : PyData}
def lawI (gap : Int) (tx : Int → Option (List Nat)) (W : Int → Int) (sc : Int → Int) (rm : Option Int) (s : List (List It) × List It) (i : It) : List (List It) × List It :=
  if s.2 ≠ [] ∧ over rm (lwP (pcs gap tx W sc (s.2 ++ [i]))) = true then (s.1 ++ [s.2], [i]) else (s.1, s.2 ++ [i])
theorem ll_step (OR : PyData) (rm : Option Int) (s : List (List It) × List It) (i : It) (s9 s10 s11 s14 s15 : Slot) (ho : ItsOk tx (s.2 ++ [i])) (hk : ∀ j ∈ s.2 ++ [i], DOk TX WD SD tx W sc j.c) (h1 : s.1.length < 70000) (h2 : s.2.length < 70000) :
    ∃ t14, L__law_lines_1 (RLn OR TX WD SD (encRm rm) gap s.1 s.2 (.val (.int i.c)) s9 s10 s11 (.val (.int (i.a : Nat))) (.val (.int (i.b : Nat))) s14 s15) = some (.nx (RLn OR TX WD SD (encRm rm) gap (lawI gap tx W sc rm s i).1 (lawI gap tx W sc rm s i).2 (.val (.int i.c)) s9 s10 s11 (.val (.int (i.a : Nat))) (.val (.int (i.b : Nat))) t14 s15)) := by
  obtain ⟨ls, is⟩ := s
  simp only [] at ho hk h1 h2
  have le3 : 3 ≤ sizeLine := size_le (by decide)
  have le1 : 1 ≤ sizeLine := size_le (by decide)
  have le0 : 0 ≤ sizeLine := Nat.zero_le _
  have lt : (ls.map encIL).length < sizeLine := by rw [List.length_map, sizeLine_eq]; omega
  have n1 : oNeg (.int 1) = some (.int (-1)) := rfl
  obtain ⟨A, q, hq⟩ : ∃ A q, pcs gap tx W sc (is ++ [i]) = A ++ [q] := by
    rcases List.eq_nil_or_concat (pcs gap tx W sc (is ++ [i])) with h | ⟨A, q, h⟩
    · have := (pcs_nil gap tx W sc (is ++ [i])).mp h
      simp at this
    · exact ⟨A, q, by rw [h, List.concat_eq_append]⟩
  have lp := lpieces_eq (gap := gap) (is ++ [i]) ho hk (by rw [List.length_append, List.length_singleton]; omega)
  have em : (is ++ [i]).map encIt = is.map encIt ++ [encIt i] := by rw [List.map_append]; rfl
  have ix : oIx (.list ((pcs gap tx W sc (is ++ [i])).map encPc)) (.int (-1)) = some (encPc q) := by
    rw [hq, List.map_append]; exact atI_last _ _
  have x3 : oIx (encPc q) (.int 3) = some (.int q.l) := rfl
  have x4 : oIx (encPc q) (.int 4) = some (.int q.w) := rfl
  have lwq : lwP (pcs gap tx W sc (is ++ [i])) = q.l + q.w := by rw [hq, lwP_concat]
  have cat : ∀ js : List It, js.length < 80000 → oCat (.list (js.map encIt)) (.list [encIt i]) = some (.list ((js ++ [i]).map encIt)) := fun js hj => by
    rw [List.map_append]
    show oCat (.list (js.map encIt)) (.list [encIt i]) = some (.list (js.map encIt ++ [encIt i]))
    exact if_pos (by rw [List.length_map, sizeLine_eq]; show js.length + 1 ≤ _; omega)
  have ei : encIt i = .tuple [.int i.c, .int (i.a : Nat), .int (i.b : Nat)] := rfl
  have c1 := cat is (by omega)
  have c0 := cat [] (by simp)
  have z0 : (([] : List It).map encIt) = [] := rfl
  have z1 : (([] ++ [i] : List It).map encIt) = [encIt i] := rfl
  rw [z0, z1] at c0
  refine ⟨.val (encPc q), ?_⟩
  have e1 : sSet 14 (eOp oIx (eCall F__law_pieces (aCons (eOp oCat (eB 7) (eLst (aCons (eTup (aCons (eV 8) (aCons (eV 12) (aCons (eV 13) aNil)))) aNil))) (aCons (eB 1) (aCons (eB 2) (aCons (eB 3) (aCons (eB 5) aNil)))))) (eUn oNeg (eK (.int 1)))) (RLn OR TX WD SD (encRm rm) gap ls is (.val (.int i.c)) s9 s10 s11 (.val (.int (i.a : Nat))) (.val (.int (i.b : Nat))) s14 s15) = some (.nx (RLn OR TX WD SD (encRm rm) gap ls is (.val (.int i.c)) s9 s10 s11 (.val (.int (i.a : Nat))) (.val (.int (i.b : Nat))) (.val (encPc q)) s15)) := by
    rw [ei] at c1
    unfold RLn encIL
    generalize (pcs gap tx W sc (is ++ [i])).map encPc = PP at *
    generalize (is ++ [i]).map encIt = JJ at *
    generalize is.map encIt = II at *
    generalize encPc q = EP at *
    generalize encRm rm = RM at *
    generalize ls.map encIL = LL at *
    push_cast only [c1, lp, ix, n1, le3, le1]
  have e3 : sSet 7 (eOp oCat (eB 7) (eLst (aCons (eTup (aCons (eV 8) (aCons (eV 12) (aCons (eV 13) aNil)))) aNil))) (RLn OR TX WD SD (encRm rm) gap ls is (.val (.int i.c)) s9 s10 s11 (.val (.int (i.a : Nat))) (.val (.int (i.b : Nat))) (.val (encPc q)) s15) = some (.nx (RLn OR TX WD SD (encRm rm) gap ls (is ++ [i]) (.val (.int i.c)) s9 s10 s11 (.val (.int (i.a : Nat))) (.val (.int (i.b : Nat))) (.val (encPc q)) s15)) := by
    rw [ei] at c1
    unfold RLn encIL
    generalize (is ++ [i]).map encIt = JJ at *
    generalize is.map encIt = II at *
    generalize encPc q = EP at *
    generalize encRm rm = RM at *
    generalize ls.map (fun is => PyData.list (is.map encIt)) = LL at *
    push_cast only [c1, le3, le1]
  have lc : cLen [.list (is.map encIt)] = some (.int ((is.map encIt).length : Nat)) := cLen_l
  have dl : ((0 : Int) < ((is.map encIt).length : Nat)) ↔ is ≠ [] := by
    rw [List.length_map]
    constructor
    · intro h z; rw [z] at h; simp at h
    · intro h
      have : 0 < is.length := List.length_pos_iff.mpr h
      omega
  have e2 : bAnd (bT (eOp oGt (eCall cLen (aCons (eB 7) aNil)) (eK (.int 0)))) (bAnd (bT (eOp oNotN (eB 4) (eK (.none)))) (bT (eOp oGt (eOp oAdd (eOp oIx (eB 14) (eK (.int 3))) (eOp oIx (eB 14) (eK (.int 4)))) (eB 4)))) (RLn OR TX WD SD (encRm rm) gap ls is (.val (.int i.c)) s9 s10 s11 (.val (.int (i.a : Nat))) (.val (.int (i.b : Nat))) (.val (encPc q)) s15) = some (decide (is ≠ []) && over rm (q.l + q.w)) := by
    unfold RLn encIL
    by_cases hn : is = []
    · have d : decide ((0 : Int) < ((is.map encIt).length : Nat)) = false := decide_eq_false fun h => dl.mp h hn
      have r : (decide (is ≠ []) && over rm (q.l + q.w)) = false := by rw [decide_eq_false (fun h => h hn)]; rfl
      rw [r]
      generalize is.map encIt = II at *
      generalize encPc q = EP at *
      generalize encRm rm = RM at *
      generalize ls.map (fun is => PyData.list (is.map encIt)) = LL at *
      push_cast only [lc, d, Bool.false_eq_true, if_false]
    · have d : decide ((0 : Int) < ((is.map encIt).length : Nat)) = true := decide_eq_true (dl.mpr hn)
      rw [decide_eq_true hn, Bool.true_and]
      generalize is.map encIt = II at *
      generalize encPc q = EP at *
      generalize ls.map (fun is => PyData.list (is.map encIt)) = LL at *
      cases rm with
      | none =>
        have z : encRm none = .none := rfl
        have z2 : over none (q.l + q.w) = false := rfl
        rw [z, z2]
        push_cast only [lc, d, Bool.false_eq_true, if_false]
      | some r =>
        have z : encRm (some r) = .int r := rfl
        have z2 : over (some r) (q.l + q.w) = decide (r < q.l + q.w) := rfl
        rw [z, z2]
        push_cast only [lc, d, x3, x4]
  unfold L__law_lines_1 lawI
  rw [lwq]
  refine sqN e1 ?_
  by_cases hc : is ≠ [] ∧ over rm (q.l + q.w) = true
  · rw [if_pos hc]
    have : (decide (is ≠ []) && over rm (q.l + q.w)) = true := by rw [decide_eq_true hc.1, hc.2]; rfl
    rw [this] at e2
    have el : (ls ++ [is]).map encIL = ls.map encIL ++ [encIL is] := by rw [List.map_append]; rfl
    refine sqN (ρ' := RLn OR TX WD SD (encRm rm) gap (ls ++ [is]) [] (.val (.int i.c)) s9 s10 s11 (.val (.int (i.a : Nat))) (.val (.int (i.b : Nat))) (.val (encPc q)) s15) ?_ ?_
    · rw [sqIf_t e2]
      unfold RLn
      rw [el]
      have ee : encIL [] = .list [] := rfl
      rw [ee]
      generalize encIL is = II at *
      generalize encPc q = EP at *
      generalize encRm rm = RM at *
      generalize ls.map encIL = LL at *
      push_cast only [lt, fApp_r, le0]
    · show sSet 7 _ _ = some (Out.nx (RLn OR TX WD SD (encRm rm) gap (ls ++ [is]) [i] _ _ _ _ _ _ _ _))
      rw [ei] at c0
      unfold RLn
      have ee : encIL [] = .list [] := rfl
      have ee2 : encIL [i] = .list [.tuple [.int i.c, .int (i.a : Nat), .int (i.b : Nat)]] := rfl
      rw [ee, ee2]
      generalize encPc q = EP at *
      generalize encRm rm = RM at *
      generalize (ls ++ [is]).map encIL = LL at *
      push_cast only [c0, le3, le1]
  · rw [if_neg hc]
    have : (decide (is ≠ []) && over rm (q.l + q.w)) = false := by
      cases h : (decide (is ≠ []) && over rm (q.l + q.w)) with
      | false => rfl
      | true =>
        have := Bool.and_eq_true_iff.mp h
        exact absurd ⟨of_decide_eq_true this.1, this.2⟩ hc
    rw [this] at e2
    refine sqN (ρ' := RLn OR TX WD SD (encRm rm) gap ls is (.val (.int i.c)) s9 s10 s11 (.val (.int (i.a : Nat))) (.val (.int (i.b : Nat))) (.val (encPc q)) s15) ?_ e3
    rw [sqIf_f e2]; rfl
end


structure WI (tx : Int → Option (List Nat)) (D : Int → Prop) (s : List (List It) × List It) (n : Nat) : Prop where
  ok : ItsOk tx s.2
  oks : ∀ l ∈ s.1, ItsOk tx l
  d : ∀ x ∈ s.2, D x.c
  ds : ∀ l ∈ s.1, ∀ x ∈ l, D x.c
  len : s.1.length ≤ n ∧ s.2.length ≤ n ∧ ∀ l ∈ s.1, l.length ≤ n
theorem its_snoc {tx : Int → Option (List Nat)} {is : List It} (ok : ItsOk tx is) {i : It} (h1 : ∀ T, tx i.c = some T → i.a ≤ i.b ∧ i.b ≤ T.length) (h2 : ∀ x ∈ is, x.c = i.c → x.a ≤ i.b) : ItsOk tx (is ++ [i]) := by
  refine ⟨fun j hj => ?_, List.pairwise_append.mpr ⟨ok.2, List.pairwise_singleton _ _, fun x hx y hy => ?_⟩⟩
  · rcases List.mem_append.mp hj with h | h
    · exact ok.1 j h
    · rw [List.mem_singleton.mp h]; exact h1
  · rw [List.mem_singleton.mp hy]; exact h2 x hx
theorem its_one {tx : Int → Option (List Nat)} {i : It} (h1 : ∀ T, tx i.c = some T → i.a ≤ i.b ∧ i.b ≤ T.length) : ItsOk tx [i] := ⟨fun j hj => by rw [List.mem_singleton.mp hj]; exact h1, List.pairwise_singleton _ _⟩
section
variable {gap : Int} {tx : Int → Option (List Nat)} {W : Int → Int} {sc : Int → Int} {TX WD SD : PyData} {D : Int → Prop}
theorem WI.item {s : List (List It) × List It} {n : Nat} (w : WI tx D s n) (rm : Option Int) {i : It} (h1 : ∀ T, tx i.c = some T → i.a ≤ i.b ∧ i.b ≤ T.length) (h2 : ∀ x ∈ s.2, x.c = i.c → x.a ≤ i.b) (hd : D i.c) : WI tx D (lawI gap tx W sc rm s i) (n + 1) ∧ ∀ x ∈ (lawI gap tx W sc rm s i).2, x ∈ s.2 ∨ x = i := by
  have l := w.len
  unfold lawI
  by_cases h : s.2 ≠ [] ∧ over rm (lwP (pcs gap tx W sc (s.2 ++ [i]))) = true
  · rw [if_pos h]
    refine ⟨⟨its_one h1, fun x hx => ?_, fun x hx => ?_, fun x hx => ?_, ⟨?_, ?_, fun x hx => ?_⟩⟩, fun x hx => .inr (List.mem_singleton.mp hx)⟩
    · rcases List.mem_append.mp hx with h | h
      · exact w.oks x h
      · rw [List.mem_singleton.mp h]; exact w.ok
    · rw [List.mem_singleton.mp hx]; exact hd
    · rcases List.mem_append.mp hx with h | h
      · exact w.ds x h
      · rw [List.mem_singleton.mp h]; exact w.d
    · rw [List.length_append, List.length_singleton]; omega
    · show 1 ≤ n + 1; omega
    · rcases List.mem_append.mp hx with h | h
      · have := l.2.2 x h; omega
      · rw [List.mem_singleton.mp h]; omega
  · rw [if_neg h]
    refine ⟨⟨its_snoc w.ok h1 h2, w.oks, fun x hx => ?_, w.ds, ⟨by show s.1.length ≤ n + 1; omega, ?_, fun x hx => by have := l.2.2 x hx; omega⟩⟩, fun x hx => (List.mem_append.mp hx).imp id List.mem_singleton.mp⟩
    · rcases List.mem_append.mp hx with h | h
      · exact w.d x h
      · rw [List.mem_singleton.mp h]; exact hd
    · show (s.2 ++ [i]).length ≤ n + 1
      rw [List.length_append, List.length_singleton]; omega
theorem lawS_I (rm : Option Int) (s : List (List It) × List It) (u : Un) (hk : u.kd ≠ 1) : lawS gap tx W sc rm s u = lawI gap tx W sc rm s (itU u) := by
  unfold lawS lawI; rw [if_neg hk]
theorem ll_words (OR : PyData) (rm : Option Int) (hD : ∀ c, D c → DOk TX WD SD tx W sc c) {T : List Nat} {c : Int} (ht : tx c = some T) (hc : D c) (O : List Int) {lo hi e : Nat} (hh : hi ≤ T.length) (s9 s10 s11 s15 : Slot) : ∀ (ps : List (Nat × Nat)) (la : Option Nat) (a : Nat) (s : List (List It) × List It) (n : Nat) (s12 s13 s14 : Slot), Chk T lo hi a ps e → WI tx D s n → (∀ x ∈ s.2, x.c = c → x.a ≤ a) → n + ps.length < 60000 →
    ∃ t12 t13 t14, forGo (gT 2 (gsCons (gV 12) (gsCons (gV 13) gsNil))) L__law_lines_1 (ps.map encP) (RLn OR TX WD SD (encRm rm) gap s.1 s.2 (.val (.int c)) s9 s10 s11 s12 s13 s14 s15) = some (.nx (RLn OR TX WD SD (encRm rm) gap ((wordU c O la ps).foldl (lawS gap tx W sc rm) s).1 ((wordU c O la ps).foldl (lawS gap tx W sc rm) s).2 (.val (.int c)) s9 s10 s11 t12 t13 t14 s15)) ∧ WI tx D ((wordU c O la ps).foldl (lawS gap tx W sc rm) s) (n + ps.length)
  | [], la, a, s, n, s12, s13, s14, _, w, _, _ => ⟨s12, s13, s14, rfl, w⟩
  | p :: ps, la, a, s, n, s12, s13, s14, ck, w, ha, hn => by
    rw [List.length_cons] at hn
    obtain ⟨p1, p2⟩ := p
    unfold Chk at ck
    obtain ⟨⟨k1, k2, k3, _⟩, k4⟩ := ck
    have l := w.len
    have h1 : ∀ T', tx c = some T' → p1 ≤ p2 ∧ p2 ≤ T'.length := fun T' hT => by
      rw [ht] at hT; cases hT
      exact ⟨by omega, by omega⟩
    have h2 : ∀ x ∈ s.2, x.c = c → x.a ≤ p2 := fun x hx hxc => by have := ha x hx hxc; omega
    obtain ⟨w1, m1⟩ := w.item (gap := gap) (W := W) (sc := sc) rm (i := ⟨c, p1, p2⟩) h1 h2 hc
    obtain ⟨t14, e1⟩ := ll_step (gap := gap) OR rm s ⟨c, p1, p2⟩ s9 s10 s11 s14 s15 (its_snoc w.ok h1 h2) (fun j hj => by
      rcases List.mem_append.mp hj with h | h
      · exact hD _ (w.d j h)
      · rw [List.mem_singleton.mp h]; exact hD _ hc) (by omega) (by omega)
    have hw : wordU c O la ((p1, p2) :: ps) = ⟨0, c, (p1 : Nat), (p2 : Nat), O.getD p2 0 - O.getD p1 0, spU O la p1⟩ :: wordU c O (some p2) ps := rfl
    have hs : lawS gap tx W sc rm s ⟨0, c, (p1 : Nat), (p2 : Nat), O.getD p2 0 - O.getD p1 0, spU O la p1⟩ = lawI gap tx W sc rm s ⟨c, p1, p2⟩ := lawS_I rm s _ (by show (0 : Nat) ≠ 1; decide)
    rw [hw, List.foldl_cons, hs, List.map_cons, forGo]
    obtain ⟨u12, u13, u14, e2, w2⟩ := ll_words OR rm hD ht hc O hh s9 s10 s11 s15 ps (some p2) p2 (lawI gap tx W sc rm s ⟨c, p1, p2⟩) (n + 1) (.val (.int (p1 : Nat))) (.val (.int (p2 : Nat))) t14 k4 w1 (fun x hx hxc => by
      rcases m1 x hx with h | h
      · exact h2 x h hxc
      · rw [h]; show p1 ≤ p2; omega) (by omega)
    refine ⟨u12, u13, u14, ?_, ?_⟩
    · have g : gT 2 (gsCons (gV 12) (gsCons (gV 13) gsNil)) (encP (p1, p2)) (RLn OR TX WD SD (encRm rm) gap s.1 s.2 (.val (.int c)) s9 s10 s11 s12 s13 s14 s15) = some (RLn OR TX WD SD (encRm rm) gap s.1 s.2 (.val (.int c)) s9 s10 s11 (.val (.int (p1 : Nat))) (.val (.int (p2 : Nat))) s14 s15) := rfl
      rw [g, Option.bind_some, e1, Option.bind_some]
      exact e2
    · rw [List.length_cons, show n + (ps.length + 1) = n + 1 + ps.length by omega]
      exact w2
end


section
variable {gap : Int} {tx : Int → Option (List Nat)} {W : Int → Int} {sc : Int → Int} {TX WD SD : PyData} {D : Int → Prop}
theorem WI.brk {s : List (List It) × List It} {n : Nat} (w : WI tx D s n) (rm : Option Int) {T : List Nat} {c : Int} (ht : tx c = some T) (hd : D c) {b : Nat} (hb : b ≤ T.length) : WI tx D (lawS gap tx W sc rm s ⟨1, c, (b : Nat), (b : Nat), 0, 0⟩) (n + 1) ∧ (lawS gap tx W sc rm s ⟨1, c, (b : Nat), (b : Nat), 0, 0⟩).2 = [] := by
  have l := w.len
  have iu : itU ⟨1, c, (b : Nat), (b : Nat), 0, 0⟩ = ⟨c, b, b⟩ := rfl
  unfold lawS
  rw [if_pos rfl, iu]
  refine ⟨⟨⟨fun j hj => (by cases hj), List.Pairwise.nil⟩, fun x hx => ?_, fun x hx => (by cases hx), fun x hx => ?_, ⟨?_, Nat.zero_le _, fun x hx => ?_⟩⟩, rfl⟩
  · rcases List.mem_append.mp hx with h | h
    · exact w.oks x h
    · rw [List.mem_singleton.mp h]
      split
      · exact its_one fun T' hT => by rw [show tx (⟨c, b, b⟩ : It).c = tx c from rfl, ht] at hT; cases hT; exact ⟨Nat.le_refl _, hb⟩
      · exact w.ok
  · rcases List.mem_append.mp hx with h | h
    · exact w.ds x h
    · rw [List.mem_singleton.mp h]
      split
      · intro y hy; rw [List.mem_singleton.mp hy]; exact hd
      · exact w.d
  · show (s.1 ++ [_]).length ≤ n + 1
    rw [List.length_append, List.length_singleton]; omega
  · rcases List.mem_append.mp hx with h | h
    · have := l.2.2 x h; omega
    · rw [List.mem_singleton.mp h]
      split
      · show 1 ≤ n + 1; omega
      · omega
theorem oix_P (R : List (Nat × Nat)) (k : Nat) (h : k < R.length) : oIx (.list (R.map encP)) (.int (k : Nat)) = some (encP R[k]) := by
  show atI (R.map encP) (k : Nat) = _
  rw [atI_pos (by omega), Int.toNat_natCast, List.getElem?_map, List.getElem?_eq_getElem h]; rfl
theorem ll_brk (OR : PyData) (rm : Option Int) {T : List Nat} {c : Int} (R0 : List (Nat × Nat)) (s : List (List It) × List It) (k : Nat) (hk : k < R0.length) (hl : s.1.length < 70000) (s11 s12 s13 s14 s15 : Slot) :
    (sIf (bAnd (bT (eOp oGt (eB 10) (eK (.int 0)))) (bT (eOp oEq (eCall cLen (aCons (eB 7) aNil)) (eK (.int 0)))))
    (sMut fApp 6 (aCons (eLst (aCons (eTup (aCons (eV 8) (aCons (eOp oIx (eOp oIx (eB 9) (eOp oSub (eB 10) (eK (.int 1)))) (eK (.int 0))) (aCons (eOp oIx (eOp oIx (eB 9) (eOp oSub (eB 10) (eK (.int 1)))) (eK (.int 0))) aNil)))) aNil)) aNil))
    (sIf (bT (eOp oGt (eB 10) (eK (.int 0))))
      (sSeqn (sMut fApp 6 (aCons (eV 7) aNil))
      (sSet 7 (eLst aNil)))
      sNext)) (RLn OR TX WD SD (encRm rm) gap s.1 s.2 (.val (.int c)) (.val (.list (R0.map encP))) (.val (.int (k : Nat))) s11 s12 s13 s14 s15) = some (.nx (RLn OR TX WD SD (encRm rm) gap ((brkU c (if k = 0 then none else some (R0.getD (k - 1) (0, 0)).1)).foldl (lawS gap tx W sc rm) s).1 ((brkU c (if k = 0 then none else some (R0.getD (k - 1) (0, 0)).1)).foldl (lawS gap tx W sc rm) s).2 (.val (.int c)) (.val (.list (R0.map encP))) (.val (.int (k : Nat))) s11 s12 s13 s14 s15)) := by
  obtain ⟨ls, is⟩ := s
  have lt : (ls.map encIL).length < sizeLine := by rw [List.length_map, sizeLine_eq]; simp only [] at hl; omega
  have le3 : 3 ≤ sizeLine := size_le (by decide)
  have le1 : 1 ≤ sizeLine := size_le (by decide)
  have le0 : 0 ≤ sizeLine := Nat.zero_le _
  by_cases h0 : k = 0
  · subst h0
    rw [if_pos rfl]
    have e : brkU c none = [] := rfl
    rw [e, List.foldl_nil]
    have d : decide ((0 : Int) < ((0 : Nat) : Int)) = false := rfl
    unfold RLn
    generalize encIL is = II at *
    generalize ls.map encIL = LL at *
    generalize encRm rm = RM at *
    generalize R0.map encP = RR at *
    rw [sqIf_f (by push_cast only [d, Bool.false_eq_true, if_false]), sqIf_f (by push_cast only [d])]; rfl
  · rw [if_neg h0]
    have e : brkU c (some (R0.getD (k - 1) (0, 0)).1) = [⟨1, c, ((R0.getD (k - 1) (0, 0)).1 : Nat), ((R0.getD (k - 1) (0, 0)).1 : Nat), 0, 0⟩] := rfl
    rw [e, List.foldl_cons, List.foldl_nil]
    have d : decide ((0 : Int) < ((k : Nat) : Int)) = true := decide_eq_true (by omega)
    have hg : R0.getD (k - 1) (0, 0) = R0[k - 1] := by rw [List.getD_eq_getElem?_getD, List.getElem?_eq_getElem (by omega)]; rfl
    have g1 := oix_P R0 (k - 1) (by omega)
    rw [← hg] at g1
    generalize R0.getD (k - 1) (0, 0) = r at *
    have g2 : oIx (encP r) (.int 0) = some (.int (r.1 : Nat)) := rfl
    have sb : ((k : Nat) : Int) - 1 = ((k - 1 : Nat) : Int) := by omega
    have iu : itU ⟨1, c, (r.1 : Nat), (r.1 : Nat), 0, 0⟩ = ⟨c, r.1, r.1⟩ := rfl
    unfold lawS
    rw [if_pos rfl, iu]
    by_cases hn : is = []
    · subst hn
      rw [if_pos rfl]
      have el : (ls ++ [[(⟨c, r.1, r.1⟩ : It)]]).map encIL = ls.map encIL ++ [.list [.tuple [.int c, .int (r.1 : Nat), .int (r.1 : Nat)]]] := by rw [List.map_append]; rfl
      have lc : cLen [encIL []] = some (.int 0) := rfl
      have q0 : oEq (.int 0) (.int 0) = some (.bool true) := oEq_self rfl
      unfold RLn
      show _ = some (Out.nx [_, _, _, _, _, _, .own (.list ((ls ++ [[(⟨c, r.1, r.1⟩ : It)]]).map encIL)), _, _, _, _, _, _, _, _, _])
      rw [el]
      generalize encIL [] = II at *
      generalize ls.map encIL = LL at *
      generalize encRm rm = RM at *
      generalize R0.map encP = RR at *
      generalize encP r = ER at *
      generalize (r.1 : Int) = r1 at *
      rw [sqIf_t (by push_cast only [d, lc, q0])]
      push_cast only [sb, g1, g2, le3, le1, lt, fApp_r]
    · rw [if_neg hn]
      have el : (ls ++ [is]).map encIL = ls.map encIL ++ [encIL is] := by rw [List.map_append]; rfl
      have lc : cLen [encIL is] = some (.int (is.length : Nat)) := by
        have : cLen [encIL is] = some (.int ((is.map encIt).length : Nat)) := cLen_l
        rw [this, List.length_map]
      have pos : 0 < is.length := List.length_pos_iff.mpr hn
      have q0 : oEq (.int (is.length : Nat)) (.int 0) = some (.bool false) := by
        rw [oEq_i]
        exact congrArg (fun x => some (PyData.bool x)) (decide_eq_false (by omega))
      unfold RLn
      show _ = some (Out.nx [_, _, _, _, _, _, .own (.list ((ls ++ [is]).map encIL)), .val (.list []), _, _, _, _, _, _, _, _])
      rw [el]
      generalize encIL is = II at *
      generalize ls.map encIL = LL at *
      generalize encRm rm = RM at *
      generalize R0.map encP = RR at *
      rw [sqIf_f (by push_cast only [d, lc, q0]), sqIf_t (by push_cast only [d])]
      push_cast only [lt, le0, fApp_r]
end


section
variable {gap : Int} {tx : Int → Option (List Nat)} {W : Int → Int} {sc : Int → Int} {TX WD SD : PyData} {D : Int → Prop}
theorem ll_rows (OR : PyData) (rm : Option Int) (hD : ∀ c, D c → DOk TX WD SD tx W sc c) {T : List Nat} {c : Int} (ht : tx c = some T) (hc : D c) (O : List Int) (aT : Asc T) (lT : T.length ≤ 4000) (R0 : List (Nat × Nat)) (hR : ∀ r ∈ R0, r.1 ≤ r.2 ∧ r.2 ≤ T.length)
    (hw : ∀ r ∈ R0, F__law_words [tS T, .int (r.1 : Nat), .int (r.2 : Nat)] = some (.list ((wds T r.1 r.2).map encP))) (s15 : Slot) : ∀ (n k : Nat) (s : List (List It) × List It) (m : Nat) (s10 s11 s12 s13 s14 : Slot), k + n = R0.length → WI tx D s m → (k = 0 → ∀ x ∈ s.2, x.c ≠ c) → m + ((R0.drop k).map fun r => r.2 - r.1 + 1).sum < 60000 →
    ∃ t10 t11 t12 t13 t14, forGo (gV 10) L__law_lines_2 (rangeD (k : Nat) n) (RLn OR TX WD SD (encRm rm) gap s.1 s.2 (.val (.int c)) (.val (.list (R0.map encP))) s10 s11 s12 s13 s14 s15) = some (.nx (RLn OR TX WD SD (encRm rm) gap ((rowU c T O (if k = 0 then none else some (R0.getD (k - 1) (0, 0)).1) (R0.drop k)).foldl (lawS gap tx W sc rm) s).1 ((rowU c T O (if k = 0 then none else some (R0.getD (k - 1) (0, 0)).1) (R0.drop k)).foldl (lawS gap tx W sc rm) s).2 (.val (.int c)) (.val (.list (R0.map encP))) t10 t11 t12 t13 t14 s15)) ∧ WI tx D ((rowU c T O (if k = 0 then none else some (R0.getD (k - 1) (0, 0)).1) (R0.drop k)).foldl (lawS gap tx W sc rm) s) (m + ((R0.drop k).map fun r => r.2 - r.1 + 1).sum)
  | 0, k, s, m, s10, s11, s12, s13, s14, hk, w, _, hm => by
    have e : R0.drop k = [] := List.drop_eq_nil_of_le (by omega)
    rw [e]
    have e2 : ∀ be, rowU c T O be [] = [] := fun be => rfl
    rw [e2]
    exact ⟨s10, s11, s12, s13, s14, rfl, w⟩
  | n + 1, k, s, m, s10, s11, s12, s13, s14, hk, w, hx, hm => by
    have hkl : k < R0.length := by omega
    have ed : R0.drop k = R0[k] :: R0.drop (k + 1) := List.drop_eq_getElem_cons hkl
    have hr := hR R0[k] (List.getElem_mem hkl)
    have hwr := hw R0[k] (List.getElem_mem hkl)
    have gk := oix_P R0 k hkl
    have hgd : R0.getD (k + 1 - 1) (0, 0) = R0[k] := by
      rw [Nat.add_sub_cancel, List.getD_eq_getElem?_getD, List.getElem?_eq_getElem hkl]; rfl
    obtain ⟨_, _, e0, c3, c4, c5, _⟩ := wds_ok T aT lT R0[k].1 R0[k].2 hr.1 hr.2
    have cn := c3.cnt
    rw [ed, List.map_cons, List.sum_cons] at hm
    have lw := w.len
    have ih := ll_rows OR rm hD ht hc O aT lT R0 hR hw s15 n (k + 1)
    rw [if_neg (by omega), hgd] at ih
    have eb := ll_brk (gap := gap) (tx := tx) (W := W) (sc := sc) (TX := TX) (WD := WD) (SD := SD) OR rm (T := T) (c := c) R0 s k hkl (by omega) s11 s12 s13 s14 s15
    obtain ⟨be, hbe⟩ : ∃ be, be = (if k = 0 then none else some (R0.getD (k - 1) (0, 0)).1) := ⟨_, rfl⟩
    rw [← hbe] at eb ⊢
    have wb : WI tx D ((brkU c be).foldl (lawS gap tx W sc rm) s) (m + 1) ∧ ∀ x ∈ ((brkU c be).foldl (lawS gap tx W sc rm) s).2, x.c = c → x.a ≤ R0[k].1 := by
      by_cases h0 : k = 0
      · rw [if_pos h0] at hbe
        rw [hbe]
        refine ⟨⟨w.ok, w.oks, w.d, w.ds, ⟨by show s.1.length ≤ m + 1; omega, by show s.2.length ≤ m + 1; omega, fun l hl => by have := lw.2.2 l hl; omega⟩⟩, fun x hx' hxc => absurd hxc (hx h0 x hx')⟩
      · rw [if_neg h0] at hbe
        have hb : (R0.getD (k - 1) (0, 0)).1 ≤ T.length := by
          have e : R0.getD (k - 1) (0, 0) = R0[k - 1] := by rw [List.getD_eq_getElem?_getD, List.getElem?_eq_getElem (by omega)]; rfl
          rw [e]
          have := hR R0[k - 1] (List.getElem_mem (by omega))
          omega
        obtain ⟨b1, b2⟩ := w.brk (gap := gap) (W := W) (sc := sc) rm ht hc hb
        rw [hbe]
        refine ⟨b1, fun x hx' _ => ?_⟩
        have : x ∈ (lawS gap tx W sc rm s ⟨1, c, ((R0.getD (k - 1) (0, 0)).1 : Nat), ((R0.getD (k - 1) (0, 0)).1 : Nat), 0, 0⟩).2 := hx'
        rw [b2] at this; cases this
    have hrow : rowU c T O be (R0[k] :: R0.drop (k + 1)) = brkU c be ++ (wordU c O none (wds T R0[k].1 R0[k].2) ++ rowU c T O (some R0[k].1) (R0.drop (k + 1))) := rfl
    rw [ed, hrow, List.foldl_append, List.foldl_append, List.map_cons, List.sum_cons, rangeD_cons, forGo]
    generalize (brkU c be).foldl (lawS gap tx W sc rm) s = sb at *
    obtain ⟨u12, u13, u14, e2, w2⟩ := ll_words (gap := gap) OR rm hD ht hc O hr.2 (.val (.list (R0.map encP))) (.val (.int (k : Nat))) (.val (.list ((wds T R0[k].1 R0[k].2).map encP))) s15 (wds T R0[k].1 R0[k].2) none R0[k].1 sb (m + 1) s12 s13 s14 c3 wb.1 wb.2 (by omega)
    have w3 : WI tx D ((wordU c O none (wds T R0[k].1 R0[k].2)).foldl (lawS gap tx W sc rm) sb) (m + (R0[k].2 - R0[k].1 + 1)) := by
      have l := w2.len
      exact ⟨w2.ok, w2.oks, w2.d, w2.ds, ⟨by omega, by omega, fun y hy => by have := l.2.2 y hy; omega⟩⟩
    obtain ⟨v10, v11, v12, v13, v14, e3, w4⟩ := ih ((wordU c O none (wds T R0[k].1 R0[k].2)).foldl (lawS gap tx W sc rm) sb) (m + (R0[k].2 - R0[k].1 + 1)) (.val (.int (k : Nat))) (.val (.list ((wds T R0[k].1 R0[k].2).map encP))) u12 u13 u14 (by omega) w3 (fun z => by omega) (by omega)
    refine ⟨v10, v11, v12, v13, v14, ?_, by rw [← Nat.add_assoc]; exact w4⟩
    have din := (hD c hc).din
    rw [ht] at din
    have din : oDIn (.int c) TX = some (.bool true) := din
    have gt := ((hD c hc).t T ht).1
    have r0 : oIx (encP R0[k]) (.int 0) = some (.int (R0[k].1 : Nat)) := rfl
    have r1 : oIx (encP R0[k]) (.int 1) = some (.int (R0[k].2 : Nat)) := rfl
    have le2 : 2 ≤ sizeLine := size_le (by decide)
    have le1 : 1 ≤ sizeLine := size_le (by decide)
    have st : L__law_lines_2 (RLn OR TX WD SD (encRm rm) gap s.1 s.2 (.val (.int c)) (.val (.list (R0.map encP))) (.val (.int (k : Nat))) s11 s12 s13 s14 s15) = some (.nx (RLn OR TX WD SD (encRm rm) gap ((wordU c O none (wds T R0[k].1 R0[k].2)).foldl (lawS gap tx W sc rm) sb).1 ((wordU c O none (wds T R0[k].1 R0[k].2)).foldl (lawS gap tx W sc rm) sb).2 (.val (.int c)) (.val (.list (R0.map encP))) (.val (.int (k : Nat))) (.val (.list ((wds T R0[k].1 R0[k].2).map encP))) u12 u13 u14 s15)) := by
      unfold L__law_lines_2
      refine sqN eb ?_
      clear e3 eb ih
      refine sqN (ρ' := RLn OR TX WD SD (encRm rm) gap sb.1 sb.2 (.val (.int c)) (.val (.list (R0.map encP))) (.val (.int (k : Nat))) (.val (.list [.tuple [.int 0, .int 0]])) s12 s13 s14 s15) ?_ ?_
      · unfold RLn
        clear e2
        generalize encIL sb.2 = II at *
        generalize sb.1.map encIL = LL at *
        generalize encRm rm = RM at *
        generalize R0.map encP = RR at *
        push_cast only [le2, le1]
      refine sqN (ρ' := RLn OR TX WD SD (encRm rm) gap sb.1 sb.2 (.val (.int c)) (.val (.list (R0.map encP))) (.val (.int (k : Nat))) (.val (.list ((wds T R0[k].1 R0[k].2).map encP))) s12 s13 s14 s15) ?_ ?_
      · unfold RLn
        clear e2
        generalize encIL sb.2 = II at *
        generalize sb.1.map encIL = LL at *
        generalize encRm rm = RM at *
        generalize (wds T R0[k].1 R0[k].2).map encP = WW at *
        generalize (R0[k].1 : Int) = y1 at *
        generalize (R0[k].2 : Int) = y2 at *
        generalize encP R0[k] = ER at *
        generalize R0.map encP = RR at *
        generalize tS T = TT at *
        rw [sqIf_t (by push_cast only [din])]
        push_cast only [gt, gk, r0, r1, hwr]
      · exact (sFor_eq (ds := (wds T R0[k].1 R0[k].2).map encP) rfl).trans e2
    have g : gV 10 (.int (k : Nat)) (RLn OR TX WD SD (encRm rm) gap s.1 s.2 (.val (.int c)) (.val (.list (R0.map encP))) s10 s11 s12 s13 s14 s15) = some (RLn OR TX WD SD (encRm rm) gap s.1 s.2 (.val (.int c)) (.val (.list (R0.map encP))) (.val (.int (k : Nat))) s11 s12 s13 s14 s15) := rfl
    rw [g, Option.bind_some, st, Option.bind_some]
    exact e3
end


theorem rows10 (T : List Nat) : ∀ (ps : List (List Nat)) (a : Nat), T.drop a = jn ps → (ps ≠ [] → a ≤ T.length) → (∀ p ∈ ps, 10 ∉ p) → ∀ r ∈ rowsV a ps, r.1 ≤ r.2 ∧ r.2 ≤ T.length ∧ ∀ x, r.1 ≤ x → x < r.2 → T.getD x 0 ≠ 10
  | [], a, _, _, _, r, hr => by cases hr
  | p :: ps, a, hd, ha, h10, r, hr => by
    have ha := ha (by simp)
    obtain ⟨rest, hrr, hnx⟩ : ∃ rest, jn (p :: ps) = p ++ rest ∧ (ps ≠ [] → rest = 10 :: jn ps) := by
      cases ps with
      | nil => exact ⟨[], by rw [List.append_nil]; rfl, fun h => absurd rfl h⟩
      | cons q r => exact ⟨10 :: jn (q :: r), rfl, fun _ => rfl⟩
    rw [hrr] at hd
    have hl : T.length - a = p.length + rest.length := by
      have := congrArg List.length hd
      rw [List.length_drop, List.length_append] at this
      exact this
    have hp : (T.drop a).take p.length = p := by rw [hd, List.take_left']; rfl
    rw [rowsV] at hr
    rcases List.mem_cons.mp hr with rfl | hr
    · refine ⟨by show a ≤ a + p.length; omega, by show a + p.length ≤ _; omega, fun x h1 h2 h3 => ?_⟩
      have h1 : a ≤ x := h1
      have h2 : x < a + p.length := h2
      have := rng_at T a (x - a) p.length (by omega) (by omega)
      rw [hp, show a + (x - a) = x by omega, h3] at this
      exact h10 p List.mem_cons_self (List.mem_of_getElem? this)
    · by_cases hps : ps = []
      · subst hps; cases hr
      · have e := hnx hps
        have hdr : T.drop (a + p.length) = rest := by rw [← List.drop_drop, hd, List.drop_left]
        rw [e, List.length_cons] at hl
        exact rows10 T ps (a + p.length + 1) (by rw [← List.drop_drop, hdr, e]; rfl) (fun _ => by omega) (fun q hq => h10 q (List.mem_cons_of_mem _ hq)) r hr
theorem WI.mono {tx : Int → Option (List Nat)} {D D' : Int → Prop} {s : List (List It) × List It} {n n' : Nat} (w : WI tx D s n) (h : ∀ x, D x → D' x) (hn : n ≤ n') : WI tx D' s n' := ⟨w.ok, w.oks, fun x hx => h _ (w.d x hx), fun l hl x hx => h _ (w.ds l hl x hx), by have := w.len; exact ⟨by omega, by omega, fun l hl => by have := this.2.2 l hl; omega⟩⟩
section
variable {gap : Int} {tx : Int → Option (List Nat)} {W : Int → Int} {sc : Int → Int} {TX WD SD : PyData}
theorem ll_text (OR : PyData) (rm : Option Int) {D : Int → Prop} (hD : ∀ c, D c → DOk TX WD SD tx W sc c) {T : List Nat} {c : Int} (ht : tx c = some T) (hc : D c) (s : List (List It) × List It) (m : Nat) (s9 s10 s11 s12 s13 s14 s15 : Slot) (w : WI tx D s m) (hx : ∀ x ∈ s.2, x.c ≠ c) (hm : m + (T.length + 1) < 60000) :
    ∃ t9 t10 t11 t12 t13 t14, L__law_lines_3 (RLn OR TX WD SD (encRm rm) gap s.1 s.2 (.val (.int c)) s9 s10 s11 s12 s13 s14 s15) = some (.nx (RLn OR TX WD SD (encRm rm) gap ((txtU c T (sc c)).foldl (lawS gap tx W sc rm) s).1 ((txtU c T (sc c)).foldl (lawS gap tx W sc rm) s).2 (.val (.int c)) t9 t10 t11 t12 t13 t14 s15)) ∧ WI tx D ((txtU c T (sc c)).foldl (lawS gap tx W sc rm) s) (m + (T.length + 1)) := by
  obtain ⟨gt, _, aT, lT⟩ := (hD c hc).t T ht
  have din := (hD c hc).din
  rw [ht] at din
  have din : oDIn (.int c) TX = some (.bool true) := din
  have hj := spN_jn T []
  rw [List.nil_append] at hj
  have hb := rows10 T (spN [] T) 0 (by rw [List.drop_zero, hj]) (fun _ => Nat.zero_le _) (spN_free T [] (by simp))
  have hs : ((rowsV 0 (spN [] T)).map fun r => r.2 - r.1 + 1).sum ≤ T.length + 1 := by
    rw [rowsV_sum]
    by_cases z : spN [] T = []
    · rw [z]; exact Nat.zero_le _
    · rw [jn_sum _ z, hj]; exact Nat.le_refl _
  have lp := lpara_eq63 T lT
  unfold txtU
  obtain ⟨t10, t11, t12, t13, t14, e, wf⟩ := ll_rows (gap := gap) OR rm hD ht hc (offV T (sc c)) aT lT (rowsV 0 (spN [] T)) (fun r hr => ⟨(hb r hr).1, (hb r hr).2.1⟩) (fun r hr => lwords_eq T aT lT r.1 r.2 (hb r hr).1 (hb r hr).2.1 (hb r hr).2.2) s15 (rowsV 0 (spN [] T)).length 0 s m s10 s11 s12 s13 s14 (by omega) w (fun _ => hx) (by rw [List.drop_zero]; omega)
  rw [if_pos rfl, List.drop_zero] at e wf
  have ln : (rowsV 0 (spN [] T)).length ≤ T.length + 1 := by
    have : ∀ R : List (Nat × Nat), R.length ≤ (R.map fun r => r.2 - r.1 + 1).sum := by
      intro R
      induction R with
      | nil => exact Nat.le_refl _
      | cons r R ih => rw [List.length_cons, List.map_cons, List.sum_cons]; omega
    exact Nat.le_trans (this _) hs
  refine ⟨.val (.list ((rowsV 0 (spN [] T)).map encP)), t10, t11, t12, t13, t14, ?_, wf.mono (fun _ h => h) (by omega)⟩
  generalize rowsV 0 (spN [] T) = R0 at *
  have lc : cLen [.list (R0.map encP)] = some (.int (R0.length : Nat)) := by
    have : cLen [.list (R0.map encP)] = some (.int ((R0.map encP).length : Nat)) := cLen_l
    rw [this, List.length_map]
  unfold L__law_lines_3
  refine sqN (ρ' := RLn OR TX WD SD (encRm rm) gap s.1 s.2 (.val (.int c)) (.val (.list [.tuple [.int 0, .int 0]])) s10 s11 s12 s13 s14 s15) ?_ ?_
  · clear e
    have le2 : 2 ≤ sizeLine := size_le (by decide)
    have le1 : 1 ≤ sizeLine := size_le (by decide)
    unfold RLn
    generalize encIL s.2 = II at *
    generalize s.1.map encIL = LL at *
    generalize encRm rm = RM at *
    push_cast only [le2, le1]
  refine sqN (ρ' := RLn OR TX WD SD (encRm rm) gap s.1 s.2 (.val (.int c)) (.val (.list (R0.map encP))) s10 s11 s12 s13 s14 s15) ?_ ?_
  · clear e
    unfold RLn
    generalize encIL s.2 = II at *
    generalize s.1.map encIL = LL at *
    generalize encRm rm = RM at *
    generalize R0.map encP = RR at *
    generalize tS T = TT at *
    rw [sqIf_t (by push_cast only [din])]
    push_cast only [gt, lp]
  · refine (sFor_eq (ds := rangeD ((0 : Nat) : Int) R0.length) ?_).trans e
    clear e
    have r1 := rng1_n R0.length (by omega)
    unfold RLn
    generalize encIL s.2 = II at *
    generalize s.1.map encIL = LL at *
    generalize encRm rm = RM at *
    generalize PyData.list (R0.map encP) = RR at *
    push_cast only [lc, r1]
    rfl
end


section
variable {gap : Int} {tx : Int → Option (List Nat)} {W : Int → Int} {sc : Int → Int} {TX WD SD : PyData}
theorem ll_box (OR : PyData) (rm : Option Int) {D : Int → Prop} (hD : ∀ c, D c → DOk TX WD SD tx W sc c) {c : Int} (ht : tx c = none) (hc : D c) (s : List (List It) × List It) (m : Nat) (s9 s10 s11 s12 s13 s14 s15 : Slot) (w : WI tx D s m) (hx : ∀ x ∈ s.2, x.c ≠ c) (hm : m < 60000) :
    ∃ t9 t10 t11 t12 t13 t14, L__law_lines_3 (RLn OR TX WD SD (encRm rm) gap s.1 s.2 (.val (.int c)) s9 s10 s11 s12 s13 s14 s15) = some (.nx (RLn OR TX WD SD (encRm rm) gap (lawS gap tx W sc rm s ⟨2, c, 0, 0, W c, 0⟩).1 (lawS gap tx W sc rm s ⟨2, c, 0, 0, W c, 0⟩).2 (.val (.int c)) t9 t10 t11 t12 t13 t14 s15)) ∧ WI tx D (lawS gap tx W sc rm s ⟨2, c, 0, 0, W c, 0⟩) (m + 1) := by
  have din := (hD c hc).din
  rw [ht] at din
  have din : oDIn (.int c) TX = some (.bool false) := din
  have lw := w.len
  have hs : lawS gap tx W sc rm s ⟨2, c, 0, 0, W c, 0⟩ = lawI gap tx W sc rm s ⟨c, 0, 0⟩ := lawS_I rm s _ (by show (2 : Nat) ≠ 1; decide)
  rw [hs]
  have h1 : ∀ T, tx c = some T → 0 ≤ 0 ∧ 0 ≤ T.length := fun T hT => by rw [ht] at hT; cases hT
  have h2 : ∀ x ∈ s.2, x.c = c → x.a ≤ 0 := fun x hx' hxc => absurd hxc (hx x hx')
  obtain ⟨w1, _⟩ := w.item (gap := gap) (W := W) (sc := sc) rm (i := ⟨c, 0, 0⟩) h1 h2 hc
  have le2 : 2 ≤ sizeLine := size_le (by decide)
  have le1 : 1 ≤ sizeLine := size_le (by decide)
  obtain ⟨t14, e1⟩ := ll_step (gap := gap) OR rm s ⟨c, 0, 0⟩ (.val (.list [.tuple [.int 0, .int 0]])) (.val (.int ((0 : Nat) : Int))) (.val (.list [.tuple [.int 0, .int 0]])) s14 s15 (its_snoc w.ok h1 h2) (fun j hj => by
    rcases List.mem_append.mp hj with h | h
    · exact hD _ (w.d j h)
    · rw [List.mem_singleton.mp h]; exact hD _ hc) (by omega) (by omega)
  refine ⟨.val (.list [.tuple [.int 0, .int 0]]), .val (.int ((0 : Nat) : Int)), .val (.list [.tuple [.int 0, .int 0]]), .val (.int ((0 : Nat) : Int)), .val (.int ((0 : Nat) : Int)), t14, ?_, w1⟩
  unfold L__law_lines_3
  refine sqN (ρ' := RLn OR TX WD SD (encRm rm) gap s.1 s.2 (.val (.int c)) (.val (.list [.tuple [.int 0, .int 0]])) s10 s11 s12 s13 s14 s15) ?_ ?_
  · clear e1
    unfold RLn
    generalize encIL s.2 = II at *
    generalize s.1.map encIL = LL at *
    generalize encRm rm = RM at *
    push_cast only [le2, le1]
  refine sqN (ρ' := RLn OR TX WD SD (encRm rm) gap s.1 s.2 (.val (.int c)) (.val (.list [.tuple [.int 0, .int 0]])) s10 s11 s12 s13 s14 s15) ?_ ?_
  · clear e1
    rw [sqIf_f (by unfold RLn; push_cast only [din])]; rfl
  refine (sFor_eq (ds := rangeD ((0 : Nat) : Int) 1) ?_).trans ?_
  · clear e1
    have lc : cLen [.list [.tuple [.int 0, .int 0]]] = some (.int 1) := rfl
    have r1 : rng1 [.int 1] = some (rangeD 0 1) := rng1_n 1 (by decide)
    unfold RLn
    generalize encIL s.2 = II at *
    generalize s.1.map encIL = LL at *
    generalize encRm rm = RM at *
    generalize PyData.list [.tuple [.int 0, .int 0]] = RR at *
    push_cast only [lc, r1]
    rfl
  rw [rangeD_cons, forGo]
  have g : gV 10 (.int ((0 : Nat) : Int)) (RLn OR TX WD SD (encRm rm) gap s.1 s.2 (.val (.int c)) (.val (.list [.tuple [.int 0, .int 0]])) s10 s11 s12 s13 s14 s15) = some (RLn OR TX WD SD (encRm rm) gap s.1 s.2 (.val (.int c)) (.val (.list [.tuple [.int 0, .int 0]])) (.val (.int ((0 : Nat) : Int))) s11 s12 s13 s14 s15) := rfl
  rw [g, Option.bind_some]
  have st : L__law_lines_2 (RLn OR TX WD SD (encRm rm) gap s.1 s.2 (.val (.int c)) (.val (.list [.tuple [.int 0, .int 0]])) (.val (.int ((0 : Nat) : Int))) s11 s12 s13 s14 s15) = some (.nx (RLn OR TX WD SD (encRm rm) gap (lawI gap tx W sc rm s ⟨c, 0, 0⟩).1 (lawI gap tx W sc rm s ⟨c, 0, 0⟩).2 (.val (.int c)) (.val (.list [.tuple [.int 0, .int 0]])) (.val (.int ((0 : Nat) : Int))) (.val (.list [.tuple [.int 0, .int 0]])) (.val (.int ((0 : Nat) : Int))) (.val (.int ((0 : Nat) : Int))) t14 s15)) := by
    unfold L__law_lines_2
    have d : decide ((0 : Int) < ((0 : Nat) : Int)) = false := rfl
    refine sqN (ρ' := RLn OR TX WD SD (encRm rm) gap s.1 s.2 (.val (.int c)) (.val (.list [.tuple [.int 0, .int 0]])) (.val (.int ((0 : Nat) : Int))) s11 s12 s13 s14 s15) ?_ ?_
    · clear e1
      rw [sqIf_f (by unfold RLn; push_cast only [d, Bool.false_eq_true, if_false]), sqIf_f (by unfold RLn; push_cast only [d])]; rfl
    refine sqN (ρ' := RLn OR TX WD SD (encRm rm) gap s.1 s.2 (.val (.int c)) (.val (.list [.tuple [.int 0, .int 0]])) (.val (.int ((0 : Nat) : Int))) (.val (.list [.tuple [.int 0, .int 0]])) s12 s13 s14 s15) ?_ ?_
    · clear e1
      unfold RLn
      generalize encIL s.2 = II at *
      generalize s.1.map encIL = LL at *
      generalize encRm rm = RM at *
      push_cast only [le2, le1]
    refine sqN (ρ' := RLn OR TX WD SD (encRm rm) gap s.1 s.2 (.val (.int c)) (.val (.list [.tuple [.int 0, .int 0]])) (.val (.int ((0 : Nat) : Int))) (.val (.list [.tuple [.int 0, .int 0]])) s12 s13 s14 s15) ?_ ?_
    · clear e1
      rw [sqIf_f (by unfold RLn; push_cast only [din])]; rfl
    refine (sFor_eq (ds := [.tuple [.int 0, .int 0]]) rfl).trans ?_
    rw [forGo]
    have g2 : gT 2 (gsCons (gV 12) (gsCons (gV 13) gsNil)) (.tuple [.int 0, .int 0]) (RLn OR TX WD SD (encRm rm) gap s.1 s.2 (.val (.int c)) (.val (.list [.tuple [.int 0, .int 0]])) (.val (.int ((0 : Nat) : Int))) (.val (.list [.tuple [.int 0, .int 0]])) s12 s13 s14 s15) = some (RLn OR TX WD SD (encRm rm) gap s.1 s.2 (.val (.int c)) (.val (.list [.tuple [.int 0, .int 0]])) (.val (.int ((0 : Nat) : Int))) (.val (.list [.tuple [.int 0, .int 0]])) (.val (.int ((0 : Nat) : Int))) (.val (.int ((0 : Nat) : Int))) s14 s15) := rfl
    rw [g2, Option.bind_some, e1, Option.bind_some]
    rfl
  rw [st, Option.bind_some]
  rfl
def cst (tx : Int → Option (List Nat)) (c : Int) : Nat := match tx c with
  | some T => T.length + 1
  | none => 1
theorem ll_all (OR : PyData) (rm : Option Int) : ∀ (cs done : List Int) (s : List (List It) × List It) (m : Nat) (s8 s9 s10 s11 s12 s13 s14 s15 : Slot), (∀ c ∈ done ++ cs, DOk TX WD SD tx W sc c) → (done ++ cs).Nodup → WI tx (fun x => x ∈ done) s m → m + (cs.map (cst tx)).sum < 60000 →
    ∃ t8 t9 t10 t11 t12 t13 t14, forGo (gV 8) L__law_lines_3 (cs.map .int) (RLn OR TX WD SD (encRm rm) gap s.1 s.2 s8 s9 s10 s11 s12 s13 s14 s15) = some (.nx (RLn OR TX WD SD (encRm rm) gap ((cs.flatMap (chU tx W sc)).foldl (lawS gap tx W sc rm) s).1 ((cs.flatMap (chU tx W sc)).foldl (lawS gap tx W sc rm) s).2 t8 t9 t10 t11 t12 t13 t14 s15)) ∧ WI tx (fun x => x ∈ done ++ cs) ((cs.flatMap (chU tx W sc)).foldl (lawS gap tx W sc rm) s) (m + (cs.map (cst tx)).sum)
  | [], done, s, m, s8, s9, s10, s11, s12, s13, s14, s15, _, _, w, _ => ⟨s8, s9, s10, s11, s12, s13, s14, rfl, by rw [List.append_nil]; exact w⟩
  | c :: cs, done, s, m, s8, s9, s10, s11, s12, s13, s14, s15, hk, nd, w, hm => by
    rw [List.map_cons, List.sum_cons] at hm
    have hnot : c ∉ done := fun h => by
      have := (List.nodup_append.mp nd).2.2 c h c List.mem_cons_self
      exact this rfl
    have hx : ∀ x ∈ s.2, x.c ≠ c := fun x hx e => hnot (by have := w.d x hx; rw [e] at this; exact this)
    have w' : WI tx (fun x => x ∈ done ++ [c]) s m := w.mono (fun x h => List.mem_append_left _ h) (Nat.le_refl _)
    have hD : ∀ x, x ∈ done ++ [c] → DOk TX WD SD tx W sc x := fun x h => hk x (by
      rcases List.mem_append.mp h with h | h
      · exact List.mem_append_left _ h
      · rw [List.mem_singleton.mp h]; simp)
    have one : ∃ t9 t10 t11 t12 t13 t14, L__law_lines_3 (RLn OR TX WD SD (encRm rm) gap s.1 s.2 (.val (.int c)) s9 s10 s11 s12 s13 s14 s15) = some (.nx (RLn OR TX WD SD (encRm rm) gap ((chU tx W sc c).foldl (lawS gap tx W sc rm) s).1 ((chU tx W sc c).foldl (lawS gap tx W sc rm) s).2 (.val (.int c)) t9 t10 t11 t12 t13 t14 s15)) ∧ WI tx (fun x => x ∈ done ++ [c]) ((chU tx W sc c).foldl (lawS gap tx W sc rm) s) (m + cst tx c) := by
      unfold chU
      cases ht : tx c with
      | some T =>
        have ec : cst tx c = T.length + 1 := by unfold cst; rw [ht]
        rw [ec] at hm ⊢
        exact ll_text (gap := gap) OR rm hD ht (by simp) s m s9 s10 s11 s12 s13 s14 s15 w' hx (by omega)
      | none =>
        have ec : cst tx c = 1 := by unfold cst; rw [ht]
        rw [ec]
        exact ll_box (gap := gap) OR rm hD ht (by simp) s m s9 s10 s11 s12 s13 s14 s15 w' hx (by omega)
    obtain ⟨t9, t10, t11, t12, t13, t14, e1, w1⟩ := one
    have ea : done ++ c :: cs = done ++ [c] ++ cs := by rw [List.append_assoc]; rfl
    obtain ⟨u8, u9, u10, u11, u12, u13, u14, e2, w2⟩ := ll_all OR rm cs (done ++ [c]) _ _ (.val (.int c)) t9 t10 t11 t12 t13 t14 s15 (by rw [← ea]; exact hk) (by rw [← ea]; exact nd) w1 (by omega)
    refine ⟨u8, u9, u10, u11, u12, u13, u14, ?_, ?_⟩
    · rw [List.flatMap_cons, List.foldl_append, List.map_cons, forGo]
      have g : gV 8 (.int c) (RLn OR TX WD SD (encRm rm) gap s.1 s.2 s8 s9 s10 s11 s12 s13 s14 s15) = some (RLn OR TX WD SD (encRm rm) gap s.1 s.2 (.val (.int c)) s9 s10 s11 s12 s13 s14 s15) := rfl
      rw [g, Option.bind_some, e1, Option.bind_some]
      exact e2
    · rw [List.flatMap_cons, List.foldl_append, ea, List.map_cons, List.sum_cons, ← Nat.add_assoc]
      exact w2
end


section
variable {gap : Int} {tx : Int → Option (List Nat)} {W : Int → Int} {sc : Int → Int} {TX WD SD : PyData}
theorem llines_eq (rm : Option Int) (cs : List Int) (nd : cs.Nodup) (hk : ∀ c ∈ cs, DOk TX WD SD tx W sc c) (hm : (cs.map (cst tx)).sum < 50000) :
    F__law_lines [.list (cs.map .int), TX, WD, SD, encRm rm, .int gap] = some (.list ((setP rm gap (cs.flatMap (chU tx W sc))).map encL)) := by
  have h0 : WI tx (fun x => x ∈ ([] : List Int)) ([], []) 0 := ⟨⟨fun i hi => (by cases hi), List.Pairwise.nil⟩, fun l hl => (by cases hl), fun x hx => (by cases hx), fun l hl => (by cases hl), ⟨Nat.le_refl _, Nat.le_refl _, fun l hl => (by cases hl)⟩⟩
  obtain ⟨t8, t9, t10, t11, t12, t13, t14, e, w⟩ := ll_all (gap := gap) (TX := TX) (WD := WD) (SD := SD) (.list (cs.map .int)) rm cs [] ([], []) 0 .un .un .un .un .un .un .un .un (by rw [List.nil_append]; exact hk) (by rw [List.nil_append]; exact nd) h0 (by omega)
  rw [List.nil_append] at w
  rw [← lawL_eq (gap := gap) (tx := tx) (W := W) (sc := sc) rm cs nd]
  unfold lawL
  generalize (cs.flatMap (chU tx W sc)).foldl (lawS gap tx W sc rm) ([], []) = r at *
  obtain ⟨ls, is⟩ := r
  have lw := w.len
  simp only [] at lw e
  rw [Nat.zero_add] at lw
  -- the lines at the end
  obtain ⟨LS, hLS⟩ : ∃ LS, LS = (if is = [] then ls else ls ++ [is]) := ⟨_, rfl⟩
  have hLok : ∀ l ∈ LS, ItsOk tx l ∧ (∀ x ∈ l, x.c ∈ cs) ∧ l.length < 80000 := fun l hl => by
    have base : ∀ l ∈ ls, ItsOk tx l ∧ (∀ x ∈ l, x.c ∈ cs) ∧ l.length < 80000 := fun l hl => ⟨w.oks l hl, w.ds l hl, by have := lw.2.2 l hl; omega⟩
    rw [hLS] at hl
    split at hl
    · exact base l hl
    · rcases List.mem_append.mp hl with h | h
      · exact base l h
      · rw [List.mem_singleton.mp h]; exact ⟨w.ok, w.d, by omega⟩
  have lLS : LS.length ≤ 50001 := by
    rw [hLS]
    split
    · omega
    · rw [List.length_append, List.length_singleton]; omega
  show _ = some (PyData.list ((((if is = [] then ls else ls ++ [is])).map (pcs gap tx W sc)).map encL))
  rw [← hLS]
  have fin : sSeqn (sIf (bT (eOp oGt (eCall cLen (aCons (eB 7) aNil)) (eK (.int 0)))) (sMut fApp 6 (aCons (eV 7) aNil)) sNext) (sRet (eLc (sSeq (eB 6)) (gV 15) bYes (eCall F__law_pieces (aCons (eB 15) (aCons (eB 1) (aCons (eB 2) (aCons (eB 3) (aCons (eB 5) aNil)))))) [15])) (RLn (.list (cs.map .int)) TX WD SD (encRm rm) gap ls is t8 t9 t10 t11 t12 t13 t14 .un) = some (.rt (.list ((LS.map (pcs gap tx W sc)).map encL))) := by
    clear e
    refine sqN (ρ' := [.bor (.list (cs.map .int)), .bor TX, .bor WD, .bor SD, .bor (encRm rm), .bor (.int gap), .own (.list (LS.map encIL)), .val (encIL is), t8, t9, t10, t11, t12, t13, t14, .un]) ?_ ?_
    · by_cases hn : is = []
      · rw [if_pos hn] at hLS
        subst hn
        rw [hLS]
        have lc : cLen [encIL []] = some (.int 0) := rfl
        rw [sqIf_f (by unfold RLn; generalize encIL [] = II at *; push_cast only [lc, Int.lt_irrefl, decide_false])]; rfl
      · rw [if_neg hn] at hLS
        have el : LS.map encIL = ls.map encIL ++ [encIL is] := by rw [hLS, List.map_append]; rfl
        rw [el]
        have lc : cLen [encIL is] = some (.int (is.length : Nat)) := by
          have : cLen [encIL is] = some (.int ((is.map encIt).length : Nat)) := cLen_l
          rw [this, List.length_map]
        have pos : decide ((0 : Int) < (is.length : Nat)) = true := decide_eq_true (by have : 0 < is.length := List.length_pos_iff.mpr hn; omega)
        have lt : (ls.map encIL).length < sizeLine := by rw [List.length_map, sizeLine_eq]; omega
        rw [sqIf_t (by unfold RLn; generalize encIL is = II at *; push_cast only [lc, pos])]
        unfold RLn
        generalize encIL is = II at *
        generalize ls.map encIL = LL at *
        generalize encRm rm = RM at *
        push_cast only [lt, fApp_r]
    · have h1 : lcGo (gV 15) bYes (eCall F__law_pieces (aCons (eB 15) (aCons (eB 1) (aCons (eB 2) (aCons (eB 3) (aCons (eB 5) aNil)))))) [.bor (.list (cs.map .int)), .bor TX, .bor WD, .bor SD, .bor (encRm rm), .bor (.int gap), .own (.list (LS.map encIL)), .val (encIL is), t8, t9, t10, t11, t12, t13, t14, .un] (LS.map encIL) = some (LS.map fun l => encL (pcs gap tx W sc l)) := by
        refine lcGo_map encIL (fun l => encL (pcs gap tx W sc l)) LS fun l hl => ⟨_, rfl, rfl, ?_⟩
        obtain ⟨h1, h2, h3⟩ := hLok l hl
        have lp := lpieces_eq (gap := gap) (TX := TX) (WD := WD) (SD := SD) l h1 (fun i hi => hk _ (h2 i hi)) h3
        have e1 : encL (pcs gap tx W sc l) = .list ((pcs gap tx W sc l).map encPc) := rfl
        have e2 : encIL l = .list (l.map encIt) := rfl
        rw [e1]
        rw [← e2] at lp
        show eCall F__law_pieces (aCons (eB 15) (aCons (eB 1) (aCons (eB 2) (aCons (eB 3) (aCons (eB 5) aNil))))) [.bor (.list (cs.map .int)), .bor TX, .bor WD, .bor SD, .bor (encRm rm), .bor (.int gap), .own (.list (LS.map encIL)), .val (encIL is), t8, t9, t10, t11, t12, t13, t14, .val (encIL l)] = _
        generalize encIL l = IL at *
        generalize encIL is = II at *
        generalize LS.map encIL = LL at *
        generalize encRm rm = RM at *
        generalize (pcs gap tx W sc l).map encPc = PP at *
        push_cast only [lp]
      rw [sRet_r, eLc_r]
      show (((some (LS.map encIL)).bind _).bind _) = _
      rw [Option.bind_some]
      show ((Option.bind (lcGo (gV 15) bYes (eCall F__law_pieces (aCons (eB 15) (aCons (eB 1) (aCons (eB 2) (aCons (eB 3) (aCons (eB 5) aNil)))))) [.bor (.list (cs.map .int)), .bor TX, .bor WD, .bor SD, .bor (encRm rm), .bor (.int gap), .own (.list (LS.map encIL)), .val (encIL is), t8, t9, t10, t11, t12, t13, t14, .un] (LS.map encIL)) _).bind _) = _
      rw [h1, Option.bind_some, if_pos (by rw [List.length_map, sizeLine_eq]; omega), List.map_map]
      rfl
  refine box_rt rfl ?_
  show B__law_lines [.bor (.list (cs.map .int)), .bor TX, .bor WD, .bor SD, .bor (encRm rm), .bor (.int gap), .un, .un, .un, .un, .un, .un, .un, .un, .un, .un] = _
  unfold B__law_lines
  refine sqN (ρ' := [.bor (.list (cs.map .int)), .bor TX, .bor WD, .bor SD, .bor (encRm rm), .bor (.int gap), .own (.list []), .un, .un, .un, .un, .un, .un, .un, .un, .un]) (by clear e fin; push_cast only [size_le]) ?_
  refine sqN (ρ' := RLn (.list (cs.map .int)) TX WD SD (encRm rm) gap [] [] .un .un .un .un .un .un .un .un) (by
    clear e fin
    have ee : encIL [] = .list [] := rfl
    have le0 : 0 ≤ sizeLine := Nat.zero_le _
    unfold RLn
    rw [ee]
    push_cast only [le0, List.map_nil]) ?_
  exact sqN ((sFor_eq (ds := cs.map .int) rfl).trans e) fin
end


/-! ### the law's units -/
section
variable {c s : Int} {T : List Nat}
def RLu (c s : Int) (T : List Nat) (F : List Un) (RW : PyData) (s5 s6 s7 s8 s9 : Slot) : Rho := [.val (.int c), .bor (tS T), .val (.int s), .own (.list (F.map encU)), .val RW, s5, s6, s7, s8, s9]
theorem lu_step (aT : Asc T) (lT : T.length ≤ 4000) (F : List Un) (RW : PyData) (s5 s9 : Slot) (la : Option Nat) (p : Nat × Nat) (h1 : p.1 ≤ p.2) (h2 : p.2 ≤ T.length) (hla : ∀ l, la = some l → l ≤ p.1) (hl : F.length < 100000) :
    ∃ t9, L__law_units_1 (RLu c s T F RW s5 (.val (encO la)) (.val (.int (p.1 : Nat))) (.val (.int (p.2 : Nat))) s9) = some (.nx (RLu c s T (F ++ [⟨0, c, (p.1 : Nat), (p.2 : Nat), (offV T s).getD p.2 0 - (offV T s).getD p.1 0, spU (offV T s) la p.1⟩]) RW s5 (.val (encO (some p.2))) (.val (.int (p.1 : Nat))) (.val (.int (p.2 : Nat))) t9)) := by
  have lt : (F.map encU).length < sizeLine := by rw [List.length_map, sizeLine_eq]; omega
  have le6 : 6 ≤ sizeLine := size_le (by decide)
  obtain ⟨d, sl, ce⟩ := slx T aT lT s p.1 p.2 h1 h2
  have ce : F__law_extent [d, .int s] = some (.int ((offV T s).getD p.2 0 - (offV T s).getD p.1 0)) := ce
  have eu : (F ++ [(⟨0, c, (p.1 : Nat), (p.2 : Nat), (offV T s).getD p.2 0 - (offV T s).getD p.1 0, spU (offV T s) la p.1⟩ : Un)]).map encU = F.map encU ++ [.tuple [.str "word", .int c, .int (p.1 : Nat), .int (p.2 : Nat), .int ((offV T s).getD p.2 0 - (offV T s).getD p.1 0), .int (spU (offV T s) la p.1)]] := by rw [List.map_append]; rfl
  have go : encO (some p.2) = .int (p.2 : Nat) := rfl
  unfold RLu
  rw [eu, go]
  cases la with
  | none =>
    have g0 : encO none = .none := rfl
    have z0 : spU (offV T s) none p.1 = 0 := rfl
    rw [g0, z0]
    refine ⟨.val (.int 0), ?_⟩
    unfold L__law_units_1
    generalize tS T = TT at *
    generalize (p.1 : Int) = y1 at *
    generalize (p.2 : Int) = y2 at *
    generalize (offV T s).getD p.1 0 = x1 at *
    generalize (offV T s).getD p.2 0 = x2 at *
    generalize F.map encU = FF at *
    push_cast only [sl, ce, lt, le6, fApp_r, Bool.false_eq_true, if_false]
  | some l =>
    have g0 : encO (some l) = .int (l : Nat) := rfl
    have hl := hla l rfl
    obtain ⟨d2, sl2, ce2⟩ := slx T aT lT s l p.1 hl (by omega)
    have ce2 : F__law_extent [d2, .int s] = some (.int (spU (offV T s) (some l) p.1)) := ce2
    have is : oNotN (.int (l : Nat)) .none = some (.bool true) := rfl
    rw [g0]
    refine ⟨.val (.int (spU (offV T s) (some l) p.1)), ?_⟩
    unfold L__law_units_1
    generalize tS T = TT at *
    generalize spU (offV T s) (some l) p.1 = sp at *
    generalize (l : Int) = y0 at *
    generalize (p.1 : Int) = y1 at *
    generalize (p.2 : Int) = y2 at *
    generalize (offV T s).getD p.1 0 = x1 at *
    generalize (offV T s).getD p.2 0 = x2 at *
    generalize F.map encU = FF at *
    push_cast only [sl, ce, sl2, ce2, lt, le6, is, fApp_r]
theorem lu_words (aT : Asc T) (lT : T.length ≤ 4000) (RW : PyData) (s5 : Slot) {lo hi e : Nat} (hh : hi ≤ T.length) : ∀ (ps : List (Nat × Nat)) (a : Nat) (F : List Un) (la : Option Nat) (s7 s8 s9 : Slot), Chk T lo hi a ps e → (∀ l, la = some l → l ≤ a) → F.length + ps.length < 100000 →
    ∃ t6 t7 t8 t9, forGo (gT 2 (gsCons (gV 7) (gsCons (gV 8) gsNil))) L__law_units_1 (ps.map encP) (RLu c s T F RW s5 (.val (encO la)) s7 s8 s9) = some (.nx (RLu c s T (F ++ wordU c (offV T s) la ps) RW s5 t6 t7 t8 t9))
  | [], a, F, la, s7, s8, s9, _, _, _ => ⟨_, s7, s8, s9, by
      have : wordU c (offV T s) la [] = [] := rfl
      rw [this, List.append_nil]; rfl⟩
  | p :: ps, a, F, la, s7, s8, s9, ck, hla, hl => by
    rw [List.length_cons] at hl
    obtain ⟨p1, p2⟩ := p
    unfold Chk at ck
    obtain ⟨⟨k1, k2, k3, _⟩, k4⟩ := ck
    obtain ⟨t9, e1⟩ := lu_step (c := c) (s := s) aT lT F RW s5 s9 la (p1, p2) (by show p1 ≤ p2; omega) (by show p2 ≤ _; omega) (fun l hl => by have := hla l hl; show l ≤ p1; omega) (by omega)
    obtain ⟨u6, u7, u8, u9, e2⟩ := lu_words aT lT RW s5 hh ps p2 (F ++ [⟨0, c, (p1 : Nat), (p2 : Nat), (offV T s).getD p2 0 - (offV T s).getD p1 0, spU (offV T s) la p1⟩]) (some p2) (.val (.int (p1 : Nat))) (.val (.int (p2 : Nat))) t9 k4 (fun l hl => by cases hl; exact Nat.le_refl _) (by rw [List.length_append, List.length_singleton]; omega)
    refine ⟨u6, u7, u8, u9, ?_⟩
    have hw : wordU c (offV T s) la ((p1, p2) :: ps) = ⟨0, c, (p1 : Nat), (p2 : Nat), (offV T s).getD p2 0 - (offV T s).getD p1 0, spU (offV T s) la p1⟩ :: wordU c (offV T s) (some p2) ps := rfl
    rw [List.append_assoc, List.singleton_append] at e2
    rw [hw, List.map_cons, forGo]
    have g : gT 2 (gsCons (gV 7) (gsCons (gV 8) gsNil)) (encP (p1, p2)) (RLu c s T F RW s5 (.val (encO la)) s7 s8 s9) = some (RLu c s T F RW s5 (.val (encO la)) (.val (.int (p1 : Nat))) (.val (.int (p2 : Nat))) s9) := rfl
    rw [g, Option.bind_some, e1]
    exact e2
def lastR (pre : List (Nat × Nat)) : Option Nat := pre.getLast?.map (·.1)
theorem lu_rows (aT : Asc T) (lT : T.length ≤ 4000) (R : List (Nat × Nat)) (hR : ∀ r ∈ R, r.1 ≤ r.2 ∧ r.2 ≤ T.length ∧ ∀ x, r.1 ≤ x → x < r.2 → T.getD x 0 ≠ 10) : ∀ (suf pre : List (Nat × Nat)) (F : List Un) (s5 s6 s7 s8 s9 : Slot), R = pre ++ suf → F.length + suf.length * 4002 < 90000000000 → (F ++ rowU c T (offV T s) (lastR pre) suf).length < 90000 →
    ∃ t5 t6 t7 t8 t9, forGo (gV 5) L__law_units_2 (rangeD (pre.length : Nat) suf.length) (RLu c s T F (.list (R.map encP)) s5 s6 s7 s8 s9) = some (.nx (RLu c s T (F ++ rowU c T (offV T s) (lastR pre) suf) (.list (R.map encP)) t5 t6 t7 t8 t9))
  | [], pre, F, s5, s6, s7, s8, s9, _, _, _ => ⟨s5, s6, s7, s8, s9, by
      have : rowU c T (offV T s) (lastR pre) [] = [] := rfl
      rw [this, List.append_nil]; rfl⟩
  | r :: suf, pre, F, s5, s6, s7, s8, s9, hp, _, hl => by
    obtain ⟨r1, r2, r3⟩ := hR r (by rw [hp]; exact List.mem_append_right _ List.mem_cons_self)
    have hr : rowU c T (offV T s) (lastR pre) (r :: suf) = brkU c (lastR pre) ++ (wordU c (offV T s) none (wds T r.1 r.2) ++ rowU c T (offV T s) (some r.1) suf) := rfl
    have lb : (brkU c (lastR pre)).length ≤ 1 := by cases lastR pre <;> first | exact Nat.le_refl _ | exact Nat.zero_le _
    have hl2 := hl
    rw [hr, List.length_append, List.length_append, List.length_append, wordU_len] at hl2
    have hlast : lastR (pre ++ [r]) = some r.1 := by unfold lastR; rw [List.getLast?_concat]; rfl
    have lw := lwords_eq T aT lT r.1 r.2 r1 r2 r3
    obtain ⟨_, _, e0, ck, _, _, _⟩ := wds_ok T aT lT r.1 r.2 r1 r2
    have ix : ∀ k : Nat, (h : k < R.length) → oIx (.list (R.map encP)) (.int (k : Nat)) = some (encP R[k]) := fun k h => by
      show atI _ _ = _
      rw [atI_pos (by omega), Int.toNat_natCast, List.getElem?_map, List.getElem?_eq_getElem h]; rfl
    have hk : pre.length < R.length := by rw [hp, List.length_append, List.length_cons]; omega
    have ixk := ix pre.length hk
    have rk : R[pre.length] = r := by
      have : R[pre.length]? = some r := by rw [hp, List.getElem?_append_right (Nat.le_refl _), Nat.sub_self]; rfl
      rw [List.getElem?_eq_getElem hk] at this
      exact Option.some.inj this
    rw [rk] at ixk
    have le6 : 6 ≤ sizeLine := size_le (by decide)
    have lF : (F.map encU).length < sizeLine := by rw [List.length_map, sizeLine_eq]; omega
    -- the break
    have eb : ∀ s6, sIf (bT (eOp oGt (eB 5) (eK (.int 0)))) (sMut fApp 3 (aCons (eTup (aCons (eK (.str "break")) (aCons (eV 0) (aCons (eOp oIx (eOp oIx (eB 4) (eOp oSub (eB 5) (eK (.int 1)))) (eK (.int 0))) (aCons (eOp oIx (eOp oIx (eB 4) (eOp oSub (eB 5) (eK (.int 1)))) (eK (.int 0))) (aCons (eK (.int 0)) (aCons (eK (.int 0)) aNil))))))) aNil)) sNext (RLu c s T F (.list (R.map encP)) (.val (.int (pre.length : Nat))) s6 s7 s8 s9) = some (.nx (RLu c s T (F ++ brkU c (lastR pre)) (.list (R.map encP)) (.val (.int (pre.length : Nat))) s6 s7 s8 s9)) := fun s6 => by
      rcases List.eq_nil_or_concat pre with rfl | ⟨A, q, rfl⟩
      · have : brkU c (lastR []) = [] := rfl
        rw [this, List.append_nil]
        have gt : oGt (.int ((0 : Nat) : Int)) (.int 0) = some (.bool false) := rfl
        rw [List.length_nil]
        rw [sqIf_f (by unfold RLu; generalize PyData.list (R.map encP) = RR at *; generalize tS T = TT at *; generalize (((0 : Nat) : Int)) = z0 at *; push_cast only [gt])]; rfl
      · rw [List.concat_eq_append] at *
        have lq : lastR (A ++ [q]) = some q.1 := by unfold lastR; rw [List.getLast?_concat]; rfl
        have hk1 : A.length < R.length := by rw [hp, List.length_append, List.length_append, List.length_singleton]; omega
        have ix1 := ix A.length hk1
        have rk1 : R[A.length] = q := by
          have : R[A.length]? = some q := by rw [hp, List.append_assoc, List.getElem?_append_right (Nat.le_refl _), Nat.sub_self]; rfl
          rw [List.getElem?_eq_getElem hk1] at this
          exact Option.some.inj this
        rw [rk1] at ix1
        have en : ((A ++ [q]).length : Int) - 1 = (A.length : Nat) := by rw [List.length_append, List.length_singleton]; omega
        have gt : oGt (.int ((A ++ [q]).length : Nat)) (.int 0) = some (.bool true) := by rw [oGt_i, decide_eq_true (by rw [List.length_append, List.length_singleton]; omega)]
        have i0 : oIx (encP q) (.int 0) = some (.int (q.1 : Nat)) := rfl
        have eu : (F ++ brkU c (lastR (A ++ [q]))).map encU = F.map encU ++ [.tuple [.str "break", .int c, .int (q.1 : Nat), .int (q.1 : Nat), .int 0, .int 0]] := by rw [lq, List.map_append]; rfl
        unfold RLu
        rw [eu]
        generalize PyData.list (R.map encP) = RR at *
        generalize tS T = TT at *
        generalize encP q = EQ at *
        generalize F.map encU = FF at *
        rw [sqIf_t (by push_cast only [gt])]
        push_cast only [en, ix1, i0, le6, lF, fApp_r]
    obtain ⟨u6, u7, u8, u9, ew⟩ := lu_words (c := c) (s := s) aT lT (.list (R.map encP)) (.val (.int (pre.length : Nat))) r2 (wds T r.1 r.2) r.1 (F ++ brkU c (lastR pre)) none s7 s8 s9 ck (fun l hl => by cases hl) (by rw [List.length_append]; omega)
    have ea : F ++ brkU c (lastR pre) ++ wordU c (offV T s) none (wds T r.1 r.2) ++ rowU c T (offV T s) (lastR (pre ++ [r])) suf = F ++ rowU c T (offV T s) (lastR pre) (r :: suf) := by
      rw [hlast, hr, List.append_assoc, List.append_assoc]
    obtain ⟨t5, t6, t7, t8, t9, ih⟩ := lu_rows aT lT R hR suf (pre ++ [r]) (F ++ brkU c (lastR pre) ++ wordU c (offV T s) none (wds T r.1 r.2)) (.val (.int (pre.length : Nat))) u6 u7 u8 u9 (by rw [hp, List.append_assoc]; rfl) (by rw [List.length_append, List.length_append, wordU_len]; rw [List.length_cons] at *; omega) (by rw [ea]; exact hl)
    rw [ea] at ih
    refine ⟨t5, t6, t7, t8, t9, ?_⟩
    have hg : rangeD (pre.length : Nat) (r :: suf).length = .int (pre.length : Nat) :: rangeD ((pre ++ [r]).length : Nat) suf.length := by
      rw [List.length_cons, rangeD_cons, List.length_append]; rfl
    rw [hg, forGo]
    show ((some (RLu c s T F (.list (R.map encP)) (.val (.int (pre.length : Nat))) s6 s7 s8 s9)).bind _) = _
    rw [Option.bind_some]
    have st : L__law_units_2 (RLu c s T F (.list (R.map encP)) (.val (.int (pre.length : Nat))) s6 s7 s8 s9) = some (.nx (RLu c s T (F ++ brkU c (lastR pre) ++ wordU c (offV T s) none (wds T r.1 r.2)) (.list (R.map encP)) (.val (.int (pre.length : Nat))) u6 u7 u8 u9)) := by
      unfold L__law_units_2
      refine sqN (eb s6) ?_
      refine sqN (ρ' := RLu c s T (F ++ brkU c (lastR pre)) (.list (R.map encP)) (.val (.int (pre.length : Nat))) (.val (encO none)) s7 s8 s9) rfl ?_
      refine (sFor_eq (ds := (wds T r.1 r.2).map encP) ?_).trans ew
      have i0 : oIx (encP r) (.int 0) = some (.int (r.1 : Nat)) := rfl
      have i1 : oIx (encP r) (.int 1) = some (.int (r.2 : Nat)) := rfl
      unfold RLu
      generalize PyData.list (R.map encP) = RR at *
      generalize tS T = TT at *
      generalize encP r = ER at *
      generalize (wds T r.1 r.2).map encP = WW at *
      push_cast only [ixk, i0, i1, lw]
    rw [st]
    exact ih
theorem lunits_eq (aT : Asc T) (lT : T.length ≤ 4000) : F__law_units [.int c, tS T, .int s] = some (.list ((txtU c T s).map encU)) := by
  have lp := lpara_eq63 T lT
  have hj := spN_jn T []
  rw [List.nil_append] at hj
  have hR := rows10 T (spN [] T) 0 (by rw [List.drop_zero]; exact hj.symm) (fun _ => Nat.zero_le _) ((spN_free T [] (by simp)))
  have lu := txtU_len c T aT lT s
  have ml := (spN_mlen T []).1
  have lR : (rowsV 0 (spN [] T)).length = (spN [] T).length := rowsV_len _ _
  have cl : cLen [.list ((rowsV 0 (spN [] T)).map encP)] = some (.int ((rowsV 0 (spN [] T)).length : Nat)) := by
    have : cLen [.list ((rowsV 0 (spN [] T)).map encP)] = some (.int (((rowsV 0 (spN [] T)).map encP).length : Nat)) := cLen_l
    rw [this, List.length_map]
  obtain ⟨t5, t6, t7, t8, t9, e⟩ := lu_rows (c := c) (s := s) aT lT (rowsV 0 (spN [] T)) hR (rowsV 0 (spN [] T)) [] [] .un .un .un .un .un rfl (by simp only [List.length_nil]; omega) (by
    show (txtU c T s).length < 90000
    omega)
  refine box_rt rfl ?_
  show B__law_units [.val (.int c), .bor (tS T), .val (.int s), .un, .un, .un, .un, .un, .un, .un] = _
  unfold B__law_units
  refine sqN (ρ' := [.val (.int c), .bor (tS T), .val (.int s), .own (.list []), .un, .un, .un, .un, .un, .un]) (by
    have le0 : 0 ≤ sizeLine := Nat.zero_le _
    clear e; generalize tS T = TT at *; push_cast only [le0]) ?_
  refine sqN (ρ' := RLu c s T [] (.list ((rowsV 0 (spN [] T)).map encP)) .un .un .un .un .un) (by
    clear e cl
    unfold RLu
    generalize tS T = TT at *
    generalize (rowsV 0 (spN [] T)).map encP = RR at *
    push_cast only [lp, List.map_nil]) ?_
  refine sqN ((sFor_eq (ds := rangeD 0 (rowsV 0 (spN [] T)).length) (sArgs_eq (ds := [.int ((rowsV 0 (spN [] T)).length : Nat)]) (by
    clear e lp
    unfold RLu
    generalize PyData.list ((rowsV 0 (spN [] T)).map encP) = RR at *
    generalize tS T = TT at *
    push_cast only [cl]) (rng1_n _ (by omega)))).trans e) ?_
  rfl
end


/-! ### lists of the world that stay as they are -/
def StpL (gv : WV → Rho → Option Rho) (b : DV.MS) (w : Wd) : List WV → Rho → Rho → Prop
  | [], ρ, ρ' => ρ = ρ'
  | x :: xs, ρ, ρ' => ∃ ρ1 ρ2, gv x ρ = some ρ1 ∧ b ρ1 w = some (.nx ρ2, w) ∧ StpL gv b w xs ρ2 ρ'
theorem mForLGo_st {gv : WV → Rho → Option Rho} {b : DV.MS} {w : Wd} {h : Nat} {l : List WV} (hw : w[h]? = some (.lst l)) : ∀ (suf pre : List WV) (ρ ρ' : Rho), l = pre ++ suf → StpL gv b w suf ρ ρ' → mForLGo gv b h l.length suf.length ρ w = some (.nx ρ', w)
  | [], pre, ρ, ρ', hp, S => by
    cases S
    show mForLGo gv b h l.length 0 ρ w = _
    unfold mForLGo
    simp only [hw]
    exact if_pos True.intro
  | x :: suf, pre, ρ, ρ', hp, ⟨ρ1, ρ2, e1, e2, S⟩ => by
    have ih := mForLGo_st hw suf (pre ++ [x]) ρ2 ρ' (by rw [hp, List.append_assoc]; rfl) S
    have ix : l[l.length - (suf.length + 1)]? = some x := by
      have : l.length - (suf.length + 1) = pre.length := by rw [hp, List.length_append, List.length_cons]; omega
      rw [this, hp, List.getElem?_append_right (Nat.le_refl _), Nat.sub_self]; rfl
    show mForLGo gv b h l.length (suf.length + 1) ρ w = _
    unfold mForLGo
    simp only [hw]
    rw [if_pos True.intro, ix, Option.bind_some, e1, Option.bind_some, e2, Option.bind_some]
    exact ih
theorem mForL_st {fr : MR} {gv : WV → Rho → Option Rho} {b : DV.MS} {w : Wd} {h : Nat} {l : List WV} {ρ ρ' : Rho} (e : fr ρ w = some (h, w)) (hw : w[h]? = some (.lst l)) (S : StpL gv b w l ρ ρ') : mForL fr gv b ρ w = some (.nx ρ', w) := by
  unfold mForL
  rw [e, Option.bind_some]
  simp only [hw]
  exact mForLGo_st hw l [] ρ ρ' rfl S
def LcL (gv : WV → Rho → Option Rho) (t : MB) (e : ME) (w : Wd) (ρ : Rho) : List WV → List PyData → Prop
  | [], [] => True
  | x :: xs, y :: ys => (∃ ρ1, gv x ρ = some ρ1 ∧ t ρ1 w = some (true, w) ∧ e ρ1 w = some (y, w)) ∧ LcL gv t e w ρ xs ys
  | _, _ => False
theorem mLcLGo_st {gv : WV → Rho → Option Rho} {t : MB} {e : ME} {w : Wd} {h : Nat} {l : List WV} {ρ : Rho} (hw : w[h]? = some (.lst l)) : ∀ (suf pre : List WV) (ys : List PyData), l = pre ++ suf → LcL gv t e w ρ suf ys → mLcLGo gv t e ρ h l.length suf.length w = some (ys, w)
  | [], pre, [], hp, _ => by
    show mLcLGo gv t e ρ h l.length 0 w = _
    unfold mLcLGo
    simp only [hw]
    exact if_pos True.intro
  | [], _, _ :: _, _, S => S.elim
  | _ :: _, _, [], _, S => S.elim
  | x :: suf, pre, y :: ys, hp, ⟨⟨ρ1, e1, e2, e3⟩, S⟩ => by
    have ih := mLcLGo_st hw suf (pre ++ [x]) ys (by rw [hp, List.append_assoc]; rfl) S
    have ix : l[l.length - (suf.length + 1)]? = some x := by
      have : l.length - (suf.length + 1) = pre.length := by rw [hp, List.length_append, List.length_cons]; omega
      rw [this, hp, List.getElem?_append_right (Nat.le_refl _), Nat.sub_self]; rfl
    show mLcLGo gv t e ρ h l.length (suf.length + 1) w = _
    unfold mLcLGo
    simp only [hw]
    rw [if_pos True.intro, ix, Option.bind_some, e1, Option.bind_some, e2, Option.bind_some]
    simp only [if_true]
    rw [e3, Option.bind_some, ih]; rfl
theorem mLcL_st {fr : MR} {gv : WV → Rho → Option Rho} {t : MB} {e : ME} {vs : List Nat} {w : Wd} {h : Nat} {l : List WV} {ρ : Rho} {ys : List PyData} (e0 : fr ρ w = some (h, w)) (hw : w[h]? = some (.lst l)) (S : LcL gv t e w (wipeR ρ vs) l ys) (hl : ys.length ≤ sizeLine) : mLcL fr gv t e vs ρ w = some (.list ys, w) := by
  unfold mLcL
  rw [e0, Option.bind_some]
  simp only [hw]
  have := mLcLGo_st hw l [] ys rfl S
  rw [this, Option.bind_some]
  exact if_pos hl
/-! ### lines put in their places -/
def alS (k : Nat) : Str := if k = 0 then "left" else if k = 1 then "center" else if k = 2 then "right" else "full"
theorem al_q (k : Nat) : oEq (.str (alS k)) (.str "right") = some (.bool (decide (k = 2))) ∧ oEq (.str (alS k)) (.str "center") = some (.bool (decide (k = 1))) := by
  unfold alS
  by_cases h0 : k = 0
  · subst h0
    exact ⟨oEq_s (by decide +kernel) (by decide +kernel), oEq_s (by decide +kernel) (by decide +kernel)⟩
  · rw [if_neg h0]
    by_cases h1 : k = 1
    · subst h1
      exact ⟨oEq_s (by decide +kernel) (by decide +kernel), oEq_self (by kernel_rfl)⟩
    · rw [if_neg h1, decide_eq_false h1]
      by_cases h2 : k = 2
      · subst h2
        exact ⟨oEq_self (by kernel_rfl), oEq_s (by decide +kernel) (by decide +kernel)⟩
      · rw [if_neg h2, decide_eq_false h2]
        exact ⟨oEq_s (by decide +kernel) (by decide +kernel), oEq_s (by decide +kernel) (by decide +kernel)⟩
def mvP (k : Nat) (r : Int) : Int := if k = 2 then r else if k = 1 then r / 2 else 0
def tallP (Hf : Int → Int) : List Pc → Int
  | [] => 0
  | p :: r => maxL (Hf p.c) (r.map fun q => Hf q.c)
def pcV (Hf : Int → Int) (top tall mv : Int) (p : Pc) : PyData := .tuple [.int p.c, .int p.a, .int p.b, .int (p.l + mv), .int (top + tall - Hf p.c), .int p.w, .int (Hf p.c)]
def plS (Hf : Int → Int) (R : Int) (k : Nat) (s : List PyData × Int × Int) (l : List Pc) : List PyData × Int × Int := (s.1 ++ l.map (pcV Hf s.2.1 (tallP Hf l) (mvP k (max 0 (R - lwP l)))), s.2.1 + tallP Hf l, max s.2.2 (lwP l))
def plV (Hf : Int → Int) (R : Int) (k : Nat) (ls : List (List Pc)) : PyData := .tuple [.int (ls.foldl (plS Hf R k) ([], 0, 0)).2.2, .int (ls.foldl (plS Hf R k) ([], 0, 0)).2.1, .list (ls.foldl (plS Hf R k) ([], 0, 0)).1]
theorem tall_eq (Hf : Int → Int) : ∀ {l : List Pc}, l ≠ [] → cMaxL [.list (l.map fun p => .int (Hf p.c))] = some (.int (tallP Hf l))
  | [], h => absurd rfl h
  | p :: r, _ => by
    have e : (p :: r).map (fun q => PyData.int (Hf q.c)) = ((p :: r).map fun q => Hf q.c).map .int := by rw [List.map_map]; rfl
    rw [e]
    show (intsOf _).bind _ = _
    rw [intsOf_map]; rfl
def RQ (h : Slot) (HD : PyData) (R : Int) (al : Str) (F : List PyData) (top wid : Int) (s7 s8 s9 s10 s11 s12 s13 s14 s15 s16 s17 : Slot) : Rho := [h, .bor HD, .bor (.int R), .bor (.str al), .own (.list F), .val (.int top), .val (.int wid), s7, s8, s9, s10, s11, s12, s13, s14, s15, s16, s17]
section
variable {HD : PyData} {Hf : Int → Int} {R : Int} {k : Nat} {h : Slot}
theorem pp_one (w : Wd) (al : Str) (F : List PyData) (top wid mv tall : Int) (p : Pc) (s7 s8 s16 s17 : Slot) (hH : oDGet HD (.int p.c) = some (.int (Hf p.c))) (hF : F.length < sizeLine) :
    L_place_pieces_1 (RQ h HD R al F top wid s7 s8 (.val (.int mv)) (.val (.int tall)) (.val (.int p.c)) (.val (.int p.a)) (.val (.int p.b)) (.val (.int p.l)) (.val (.int p.w)) s16 s17) w = some (.nx (RQ h HD R al (F ++ [pcV Hf top tall mv p]) top wid s7 s8 (.val (.int mv)) (.val (.int tall)) (.val (.int p.c)) (.val (.int p.a)) (.val (.int p.b)) (.val (.int p.l)) (.val (.int p.w)) (.val (.int (Hf p.c))) s17), w) := by
  have le7 : 7 ≤ sizeLine := size_le (by decide)
  unfold L_place_pieces_1
  refine mSqN (ρ' := RQ h HD R al F top wid s7 s8 (.val (.int mv)) (.val (.int tall)) (.val (.int p.c)) (.val (.int p.a)) (.val (.int p.b)) (.val (.int p.l)) (.val (.int p.w)) (.val (.int (Hf p.c))) s17) (w' := w) (mS_nx (by unfold RQ; push_cast only [hH])) (mS_nx ?_)
  unfold RQ pcV
  generalize Hf p.c = H at *
  push_cast only [hF, le7, fApp_r]
theorem pp_line (w : Wd) (al : Str) (top wid mv tall : Int) (s7 s8 s17 : Slot) : ∀ (ps : List Pc) (F : List PyData) (s11 s12 s13 s14 s15 s16 : Slot), (∀ p ∈ ps, oDGet HD (.int p.c) = some (.int (Hf p.c))) → F.length + ps.length < sizeLine →
    ∃ t11 t12 t13 t14 t15 t16, StpL (gvD (gT 5 (gsCons (gV 11) (gsCons (gV 12) (gsCons (gV 13) (gsCons (gV 14) (gsCons (gV 15) gsNil))))))) L_place_pieces_1 w (ps.map dP) (RQ h HD R al F top wid s7 s8 (.val (.int mv)) (.val (.int tall)) s11 s12 s13 s14 s15 s16 s17) (RQ h HD R al (F ++ ps.map (pcV Hf top tall mv)) top wid s7 s8 (.val (.int mv)) (.val (.int tall)) t11 t12 t13 t14 t15 t16 s17)
  | [], F, s11, s12, s13, s14, s15, s16, _, _ => ⟨s11, s12, s13, s14, s15, s16, by
      have e : F ++ ([] : List Pc).map (pcV Hf top tall mv) = F := List.append_nil F
      rw [e]; exact rfl⟩
  | p :: ps, F, s11, s12, s13, s14, s15, s16, hH, hF => by
    rw [List.length_cons] at hF
    have o := pp_one (h := h) (Hf := Hf) (R := R) w al F top wid mv tall p s7 s8 s16 s17 (hH p List.mem_cons_self) (by omega)
    obtain ⟨t11, t12, t13, t14, t15, t16, ih⟩ := pp_line w al top wid mv tall s7 s8 s17 ps (F ++ [pcV Hf top tall mv p]) (.val (.int p.c)) (.val (.int p.a)) (.val (.int p.b)) (.val (.int p.l)) (.val (.int p.w)) (.val (.int (Hf p.c))) (fun q hq => hH q (List.mem_cons_of_mem _ hq)) (by rw [List.length_append, List.length_singleton]; omega)
    rw [List.append_assoc, List.singleton_append, ← List.map_cons] at ih
    exact ⟨t11, t12, t13, t14, t15, t16, _, _, rfl, o, ih⟩
theorem pl_line (al : Str) (top wid tall mv : Int) (s7 s8 s10 s17 : Slot) : ∀ (ps : List Pc) (F : List PyData) (s12 s13 s14 s15 s16 : Slot), (∀ p ∈ ps, oDGet HD (.int p.c) = some (.int (Hf p.c))) → F.length + ps.length < sizeLine →
    ∃ t12 t13 t14 t15 t16, forGo (gT 5 (gsCons (gV 12) (gsCons (gV 13) (gsCons (gV 14) (gsCons (gV 15) (gsCons (gV 16) gsNil)))))) L__law_placed_1 (ps.map encPc) (RQ h HD R al F top wid s7 s8 (.val (.int tall)) s10 (.val (.int mv)) s12 s13 s14 s15 s16 s17) = some (.nx (RQ h HD R al (F ++ ps.map (pcV Hf top tall mv)) top wid s7 s8 (.val (.int tall)) s10 (.val (.int mv)) t12 t13 t14 t15 t16 s17))
  | [], F, s12, s13, s14, s15, s16, _, _ => ⟨s12, s13, s14, s15, s16, by
      have e : F ++ ([] : List Pc).map (pcV Hf top tall mv) = F := List.append_nil F
      rw [e]; rfl⟩
  | p :: ps, F, s12, s13, s14, s15, s16, hH, hF => by
    rw [List.length_cons] at hF
    have o : L__law_placed_1 (RQ h HD R al F top wid s7 s8 (.val (.int tall)) s10 (.val (.int mv)) (.val (.int p.c)) (.val (.int p.a)) (.val (.int p.b)) (.val (.int p.l)) (.val (.int p.w)) s17) = some (.nx (RQ h HD R al (F ++ [pcV Hf top tall mv p]) top wid s7 s8 (.val (.int tall)) s10 (.val (.int mv)) (.val (.int p.c)) (.val (.int p.a)) (.val (.int p.b)) (.val (.int p.l)) (.val (.int p.w)) s17)) := by
      have le7 : 7 ≤ sizeLine := size_le (by decide)
      have hF2 : F.length < sizeLine := by omega
      have hH := hH p List.mem_cons_self
      unfold L__law_placed_1 RQ pcV
      generalize Hf p.c = H at *
      push_cast only [hH, hF2, le7, fApp_r]
    obtain ⟨t12, t13, t14, t15, t16, ih⟩ := pl_line al top wid tall mv s7 s8 s10 s17 ps (F ++ [pcV Hf top tall mv p]) (.val (.int p.c)) (.val (.int p.a)) (.val (.int p.b)) (.val (.int p.l)) (.val (.int p.w)) (fun q hq => hH q (List.mem_cons_of_mem _ hq)) (by rw [List.length_append, List.length_singleton]; omega)
    rw [List.append_assoc, List.singleton_append, ← List.map_cons] at ih
    refine ⟨t12, t13, t14, t15, t16, ?_⟩
    rw [List.map_cons, forGo]
    show ((some (RQ h HD R al F top wid s7 s8 (.val (.int tall)) s10 (.val (.int mv)) (.val (.int p.c)) (.val (.int p.a)) (.val (.int p.b)) (.val (.int p.l)) (.val (.int p.w)) s17)).bind _) = _
    rw [Option.bind_some, o]
    exact ih
end


theorem lcL_map {α : Type} {gv : WV → Rho → Option Rho} {t : MB} {e : ME} {w : Wd} {ρ : Rho} (f : α → WV) (g : α → PyData) : ∀ xs : List α, (∀ x ∈ xs, ∃ ρ1, gv (f x) ρ = some ρ1 ∧ t ρ1 w = some (true, w) ∧ e ρ1 w = some (g x, w)) → LcL gv t e w ρ (xs.map f) (xs.map g)
  | [], _ => True.intro
  | x :: xs, h => ⟨h x List.mem_cons_self, lcL_map f g xs fun y hy => h y (List.mem_cons_of_mem _ hy)⟩
section
variable {HD : PyData} {Hf : Int → Int} {R : Int} {h : Slot}
theorem pp_two (w : Wd) (k j : Nat) (l : List Pc) (F : List PyData) (top wid : Int) (s8 s9 s10 s11 s12 s13 s14 s15 s16 s17 : Slot) (hj : w[j]? = some (.lst (l.map dP))) (ne : l ≠ []) (ll : l.length ≤ 4096) (hH : ∀ p ∈ l, oDGet HD (.int p.c) = some (.int (Hf p.c))) (hF : F.length + l.length < sizeLine) :
    ∃ t8 t9 t10 t11 t12 t13 t14 t15 t16, L_place_pieces_2 (RQ h HD R (alS k) F top wid (.st j) s8 s9 s10 s11 s12 s13 s14 s15 s16 s17) w = some (.nx (RQ h HD R (alS k) (plS Hf R k (F, top, wid) l).1 (plS Hf R k (F, top, wid) l).2.1 (plS Hf R k (F, top, wid) l).2.2 (.st j) t8 t9 t10 t11 t12 t13 t14 t15 t16 s17), w) := by
  have lw := lw_eq l (by omega)
  obtain ⟨q2, q1⟩ := al_q k
  have fbA : ∀ ρ : Rho, mVar 7 ρ w = some (.r j, w) → mFB F_line_width (maQ (mVar 7) maNil) ρ w = some (.int (lwP l), w) := fun ρ e => mFBL (Fn := F_line_width) (q := mVar 7) (ρ := ρ) (w := w) (j := j) e (rd_li hj) lw
  obtain ⟨t11, t12, t13, t14, t15, t16, S⟩ := pp_line (h := h) (HD := HD) (Hf := Hf) (R := R) w (alS k) top wid (mvP k (max 0 (R - lwP l))) (tallP Hf l) (.st j) (.val (.int (max 0 (R - lwP l)))) s17 l F s11 s12 s13 s14 s15 s16 hH hF
  refine ⟨.val (.int (max 0 (R - lwP l))), .val (.int (mvP k (max 0 (R - lwP l)))), .val (.int (tallP Hf l)), t11, t12, t13, t14, t15, t16, ?_⟩
  unfold L_place_pieces_2
  refine mSqN (ρ' := RQ h HD R (alS k) F top wid (.st j) (.val (.int (max 0 (R - lwP l)))) s9 s10 s11 s12 s13 s14 s15 s16 s17) (w' := w) (mSet_eq (d := .int (max 0 (R - lwP l))) (w1 := w) (by
    have fb := fbA (RQ h HD R (alS k) F top wid (.st j) s8 s9 s10 s11 s12 s13 s14 s15 s16 s17) rfl
    clear S
    unfold RQ at *
    generalize alS k = A at *
    generalize lwP l = L at *
    push_cast [fb]) (by show 8 < 18; decide)) ?_
  generalize hr : max 0 (R - lwP l) = rest at *
  refine mSqN (ρ' := RQ h HD R (alS k) F top wid (.st j) (.val (.int rest)) (.val (.int 0)) s10 s11 s12 s13 s14 s15 s16 s17) (w' := w) (mS_nx (by unfold RQ; push_cast only [])) ?_
  have c2 : mLB (bT (eOp oEq (eB 3) (eK (.str "right")))) (RQ h HD R (alS k) F top wid (.st j) (.val (.int rest)) (.val (.int 0)) s10 s11 s12 s13 s14 s15 s16 s17) w = some (decide (k = 2), w) := by
    clear S
    unfold RQ
    generalize alS k = A at *
    push_cast [q2]
  have c1 : mLB (bT (eOp oEq (eB 3) (eK (.str "center")))) (RQ h HD R (alS k) F top wid (.st j) (.val (.int rest)) (.val (.int 0)) s10 s11 s12 s13 s14 s15 s16 s17) w = some (decide (k = 1), w) := by
    clear S
    unfold RQ
    generalize alS k = A at *
    push_cast [q1]
  have fd : oFdiv (.int rest) (.int 2) = some (.int (rest / 2)) := oFdiv_i (by omega) (by omega)
  refine mSqN (ρ' := RQ h HD R (alS k) F top wid (.st j) (.val (.int rest)) (.val (.int (mvP k rest))) s10 s11 s12 s13 s14 s15 s16 s17) (w' := w) (by
    clear S
    unfold mvP
    by_cases h2 : k = 2
    · rw [decide_eq_true h2] at c2
      rw [if_pos h2, mIf_t c2]
      exact mS_nx (by unfold RQ; generalize alS k = A at *; push_cast only [])
    · rw [decide_eq_false h2] at c2
      rw [if_neg h2, mIf_f c2]
      by_cases h1 : k = 1
      · rw [decide_eq_true h1] at c1
        rw [if_pos h1, mIf_t c1]
        exact mS_nx (by unfold RQ; generalize alS k = A at *; push_cast only [fd])
      · rw [decide_eq_false h1] at c1
        rw [if_neg h1, mIf_f c1]; rfl) ?_
  have lc : mLcL (mR (mVar 7)) (gvD (gV 17)) (mLB bYes) (mL (eOp oDGet (eB 1) (eOp oIx (eB 17) (eK (.int 0))))) [17] (RQ h HD R (alS k) F top wid (.st j) (.val (.int rest)) (.val (.int (mvP k rest))) s10 s11 s12 s13 s14 s15 s16 s17) w = some (.list (l.map fun p => .int (Hf p.c)), w) := by
    clear S
    refine mLcL_st rfl hj (lcL_map dP (fun p => .int (Hf p.c)) l fun p hp => ⟨_, rfl, rfl, ?_⟩) (by rw [List.length_map, sizeLine_eq]; omega)
    have i0 : oIx (encPc p) (.int 0) = some (.int p.c) := rfl
    have hp := hH p hp
    show mL (eOp oDGet (eB 1) (eOp oIx (eB 17) (eK (.int 0)))) [h, .bor HD, .bor (.int R), .bor (.str (alS k)), .own (.list F), .val (.int top), .val (.int wid), .st j, .val (.int rest), .val (.int (mvP k rest)), s10, s11, s12, s13, s14, s15, s16, .val (encPc p)] w = _
    generalize encPc p = E at *
    generalize Hf p.c = Hc at *
    push_cast [i0, hp]
  refine mSqN (ρ' := RQ h HD R (alS k) F top wid (.st j) (.val (.int rest)) (.val (.int (mvP k rest))) (.val (.int (tallP Hf l))) s11 s12 s13 s14 s15 s16 s17) (w' := w) (mSet_eq (d := .int (tallP Hf l)) (w1 := w) (by
    have te := tall_eq Hf ne
    clear S
    generalize (PyData.list (l.map fun p => .int (Hf p.c))) = TL at *
    rw [mF_r, maD_r, lc]
    show (cMaxL [TL]).map _ = _
    rw [te]; rfl) (by show 10 < 18; decide)) ?_
  refine mSqN (mForL_st rfl hj S) ?_
  refine mSqN (ρ' := RQ h HD R (alS k) (F ++ l.map (pcV Hf top (tallP Hf l) (mvP k rest))) (top + tallP Hf l) wid (.st j) (.val (.int rest)) (.val (.int (mvP k rest))) (.val (.int (tallP Hf l))) t11 t12 t13 t14 t15 t16 s17) (w' := w) (mS_nx (by
    clear S
    unfold RQ
    generalize alS k = A at *
    generalize F ++ l.map (pcV Hf top (tallP Hf l) (mvP k rest)) = FF at *
    generalize tallP Hf l = tl at *
    push_cast only [])) ?_
  unfold plS
  rw [hr]
  refine mSet_eq (d := .int (max wid (lwP l))) (w1 := w) (by
    have fb := fbA (RQ h HD R (alS k) (F ++ l.map (pcV Hf top (tallP Hf l) (mvP k rest))) (top + tallP Hf l) wid (.st j) (.val (.int rest)) (.val (.int (mvP k rest))) (.val (.int (tallP Hf l))) t11 t12 t13 t14 t15 t16 s17) rfl
    clear S hr
    unfold RQ at *
    generalize alS k = A at *
    generalize F ++ l.map (pcV Hf top (tallP Hf l) (mvP k rest)) = FF at *
    generalize lwP l = L at *
    push_cast [fb]) (by show 6 < 18; decide)
theorem pp_all (w : Wd) (k : Nat) : ∀ {js : List Nat} {ls : List (List Pc)} (F : List PyData) (top wid : Int) (s7 s8 s9 s10 s11 s12 s13 s14 s15 s16 s17 : Slot), LsW w js ls → (∀ l ∈ ls, l ≠ [] ∧ l.length ≤ 4096 ∧ ∀ p ∈ l, oDGet HD (.int p.c) = some (.int (Hf p.c))) → F.length + ls.length * 4096 < sizeLine →
    ∃ t7 t8 t9 t10 t11 t12 t13 t14 t15 t16 t17, StpL (gvName 7) L_place_pieces_2 w (js.map .r) (RQ h HD R (alS k) F top wid s7 s8 s9 s10 s11 s12 s13 s14 s15 s16 s17) (RQ h HD R (alS k) (ls.foldl (plS Hf R k) (F, top, wid)).1 (ls.foldl (plS Hf R k) (F, top, wid)).2.1 (ls.foldl (plS Hf R k) (F, top, wid)).2.2 t7 t8 t9 t10 t11 t12 t13 t14 t15 t16 t17)
  | [], [], F, top, wid, s7, s8, s9, s10, s11, s12, s13, s14, s15, s16, s17, _, _, _ => ⟨s7, s8, s9, s10, s11, s12, s13, s14, s15, s16, s17, rfl⟩
  | j :: js, l :: ls, F, top, wid, s7, s8, s9, s10, s11, s12, s13, s14, s15, s16, s17, L, hl, hF => by
    obtain ⟨h1, h2, h3⟩ := hl l List.mem_cons_self
    rw [List.length_cons] at hF
    obtain ⟨u8, u9, u10, u11, u12, u13, u14, u15, u16, e⟩ := pp_two (h := h) (HD := HD) (Hf := Hf) (R := R) w k j l F top wid s8 s9 s10 s11 s12 s13 s14 s15 s16 s17 L.1 h1 h2 h3 (by omega)
    have lF : (plS Hf R k (F, top, wid) l).1.length = F.length + l.length := by unfold plS; rw [List.length_append, List.length_map]
    obtain ⟨t7, t8, t9, t10, t11, t12, t13, t14, t15, t16, t17, ih⟩ := pp_all w k (js := js) (ls := ls) (plS Hf R k (F, top, wid) l).1 (plS Hf R k (F, top, wid) l).2.1 (plS Hf R k (F, top, wid) l).2.2 (.st j) u8 u9 u10 u11 u12 u13 u14 u15 u16 s17 L.2 (fun l hq => hl l (List.mem_cons_of_mem _ hq)) (by rw [lF]; omega)
    exact ⟨t7, t8, t9, t10, t11, t12, t13, t14, t15, t16, t17, _, _, rfl, e, ih⟩
  | [], _ :: _, _, _, _, _, _, _, _, _, _, _, _, _, _, _, L, _, _ => L.elim
  | _ :: _, [], _, _, _, _, _, _, _, _, _, _, _, _, _, _, L, _, _ => L.elim
end
theorem plc_ex {HD : PyData} {Hf : Int → Int} {R : Int} (w : Wd) (k hh : Nat) {js : List Nat} {ls : List (List Pc)} (hw : w[hh]? = some (.lst (js.map .r))) (L : LsW w js ls) (hl : ∀ l ∈ ls, l ≠ [] ∧ l.length ≤ 4096 ∧ ∀ p ∈ l, oDGet HD (.int p.c) = some (.int (Hf p.c))) (hn : ls.length ≤ 4000) : F_place_pieces [.r hh, .d HD, .d (.int R), .d (.str (alS k))] w = some (.d (plV Hf R k ls), w) := by
  obtain ⟨t7, t8, t9, t10, t11, t12, t13, t14, t15, t16, t17, S⟩ := pp_all (h := .st hh) (HD := HD) (Hf := Hf) (R := R) w k (js := js) (ls := ls) [] 0 0 .un .un .un .un .un .un .un .un .un .un .un L hl (by rw [sizeLine_eq, List.length_nil]; omega)
  have le0 : 0 ≤ sizeLine := Nat.zero_le _
  have le3 : 3 ≤ sizeLine := size_le (by decide)
  refine boxW_rt rfl ?_
  show B_place_pieces [.st hh, .bor HD, .bor (.int R), .bor (.str (alS k)), .un, .un, .un, .un, .un, .un, .un, .un, .un, .un, .un, .un, .un, .un] w = _
  unfold B_place_pieces
  refine mSqN (mS_nx (ρ' := [.st hh, .bor HD, .bor (.int R), .bor (.str (alS k)), .own (.list []), .un, .un, .un, .un, .un, .un, .un, .un, .un, .un, .un, .un, .un]) (by push_cast only [le0])) ?_
  refine mSqN (mS_nx (ρ' := [.st hh, .bor HD, .bor (.int R), .bor (.str (alS k)), .own (.list []), .val (.int 0), .un, .un, .un, .un, .un, .un, .un, .un, .un, .un, .un, .un]) (by push_cast only [])) ?_
  refine mSqN (mS_nx (ρ' := RQ (.st hh) HD R (alS k) [] 0 0 .un .un .un .un .un .un .un .un .un .un .un) (by unfold RQ; push_cast only [])) ?_
  refine mSqN (mForL_st rfl hw S) ?_
  unfold plV
  generalize ls.foldl (plS Hf R k) ([], 0, 0) = st at *
  clear S
  unfold RQ mFz
  simp only [List.getElem?_cons_succ, List.getElem?_cons_zero]
  push_cast [le3]


section
variable {HD : PyData} {Hf : Int → Int} {R : Int} {h : Slot}
theorem mv_get (k : Nat) (rest : Int) (F : List PyData) (top wid : Int) (s7 s8 s9 s11 s12 s13 s14 s15 s16 s17 : Slot) : eBm oDGet2 (eDsp [((eK (.str "right")), (eV 10)), ((eK (.str "center")), (eOp oFdiv (eB 10) (eK (.int 2))))]) (aCons (eB 3) (aCons (eK (.int 0)) aNil)) (RQ h HD R (alS k) F top wid s7 s8 s9 (.val (.int rest)) s11 s12 s13 s14 s15 s16 s17) = some (.int (mvP k rest)) := by
  have fd : oFdiv (.int rest) (.int 2) = some (.int (rest / 2)) := oFdiv_i (by omega) (by omega)
  have e1 : eDsp [((eK (.str "right")), (eV 10)), ((eK (.str "center")), (eOp oFdiv (eB 10) (eK (.int 2))))] (RQ h HD R (alS k) F top wid s7 s8 s9 (.val (.int rest)) s11 s12 s13 s14 s15 s16 s17) = some (.dict [(.str "right", .int rest), (.str "center", .int (rest / 2))]) := by
    have e2 : eDsp.pairsD [((eK (.str "right")), (eV 10)), ((eK (.str "center")), (eOp oFdiv (eB 10) (eK (.int 2))))] (RQ h HD R (alS k) F top wid s7 s8 s9 (.val (.int rest)) s11 s12 s13 s14 s15 s16 s17) = some [(.str "right", .int rest), (.str "center", .int (rest / 2))] := by
      unfold eDsp.pairsD eDsp.pairsD eDsp.pairsD RQ
      generalize alS k = A at *
      push_cast only [fd]
    unfold eDsp
    rw [e2]; kernel_rfl
  have e3 : oDGet2 (.dict [(.str "right", .int rest), (.str "center", .int (rest / 2))]) [.str (alS k), .int 0] = some (.int (mvP k rest)) := by
    unfold alS mvP
    by_cases h0 : k = 0
    · subst h0; kernel_rfl
    · rw [if_neg h0]
      by_cases h1 : k = 1
      · subst h1; kernel_rfl
      · rw [if_neg h1, if_neg h1]
        by_cases h2 : k = 2
        · subst h2; kernel_rfl
        · rw [if_neg h2, if_neg h2]; kernel_rfl
  rw [eBm_r, e1, Option.bind_some, ← e3]
  unfold RQ
  generalize alS k = A at *
  generalize PyData.dict [(.str "right", .int rest), (.str "center", .int (rest / 2))] = DD at *
  clear e1 e3
  simp only [aCons_r, aNil_r, eB_s, eB_0b, eB_0v, eB_0o, eB_0p, eK_r, Option.bind_some, Option.map_some]
theorem pl_two (k : Nat) (l : List Pc) (F : List PyData) (top wid : Int) (s8 s9 s10 s11 s12 s13 s14 s15 s16 s17 : Slot) (ne : l ≠ []) (ll : l.length ≤ 4096) (hH : ∀ p ∈ l, oDGet HD (.int p.c) = some (.int (Hf p.c))) (hF : F.length + l.length < sizeLine) :
    ∃ t8 t9 t10 t11 t12 t13 t14 t15 t16, L__law_placed_2 (RQ h HD R (alS k) F top wid (.val (encL l)) s8 s9 s10 s11 s12 s13 s14 s15 s16 s17) = some (.nx (RQ h HD R (alS k) (plS Hf R k (F, top, wid) l).1 (plS Hf R k (F, top, wid) l).2.1 (plS Hf R k (F, top, wid) l).2.2 (.val (encL l)) t8 t9 t10 t11 t12 t13 t14 t15 t16 s17)) := by
  have eL : encL l = .list (l.map encPc) := rfl
  obtain ⟨A, p, hAp⟩ : ∃ A p, l = A ++ [p] := by
    rcases List.eq_nil_or_concat l with h | ⟨A, p, h⟩
    · exact absurd h ne
    · exact ⟨A, p, by rw [h, List.concat_eq_append]⟩
  have lwl : lwP l = p.l + p.w := by rw [hAp]; unfold lwP; rw [List.getLast?_concat]
  have ixl : oIx (encL l) (.int (-1)) = some (encPc p) := by
    rw [hAp]
    unfold encL
    rw [List.map_append]
    exact atI_last (A.map encPc) (encPc p)
  have x3 : oIx (encPc p) (.int 3) = some (.int p.l) := rfl
  have x4 : oIx (encPc p) (.int 4) = some (.int p.w) := rfl
  have n1 : oNeg (.int 1) = some (.int (-1)) := rfl
  obtain ⟨t12, t13, t14, t15, t16, S⟩ := pl_line (h := h) (HD := HD) (Hf := Hf) (R := R) (alS k) top wid (tallP Hf l) (mvP k (max 0 (R - lwP l))) (.val (encL l)) (.val (.int (lwP l))) (.val (.int (max 0 (R - lwP l)))) s17 l F s12 s13 s14 s15 s16 hH hF
  refine ⟨.val (.int (lwP l)), .val (.int (tallP Hf l)), .val (.int (max 0 (R - lwP l))), .val (.int (mvP k (max 0 (R - lwP l)))), t12, t13, t14, t15, t16, ?_⟩
  unfold L__law_placed_2
  refine sqN (ρ' := RQ h HD R (alS k) F top wid (.val (encL l)) (.val (.int (lwP l))) s9 s10 s11 s12 s13 s14 s15 s16 s17) (by
    clear S hH
    rw [lwl]
    unfold RQ
    generalize alS k = A at *
    generalize encL l = EL at *
    generalize encPc p = EP at *
    push_cast only [n1, ixl, x3, x4]) ?_
  have lc : eLc (sSeq (eB 7)) (gV 17) bYes (eOp oDGet (eB 1) (eOp oIx (eB 17) (eK (.int 0)))) [17] (RQ h HD R (alS k) F top wid (.val (encL l)) (.val (.int (lwP l))) s9 s10 s11 s12 s13 s14 s15 s16 s17) = some (.list (l.map fun p => .int (Hf p.c))) := by
    clear S
    refine eLc_eq (ds := l.map encPc) rfl (lcGo_map encPc (fun p => .int (Hf p.c)) l fun p hp => ⟨_, rfl, rfl, ?_⟩) (by rw [List.length_map]; omega)
    have i0 : oIx (encPc p) (.int 0) = some (.int p.c) := rfl
    have hp := hH p hp
    show (eOp oDGet (eB 1) (eOp oIx (eB 17) (eK (.int 0)))) [h, .bor HD, .bor (.int R), .bor (.str (alS k)), .own (.list F), .val (.int top), .val (.int wid), .val (encL l), .val (.int (lwP l)), s9, s10, s11, s12, s13, s14, s15, s16, .val (encPc p)] = _
    generalize encPc p = E at *
    generalize encL l = EL at *
    generalize Hf p.c = Hc at *
    push_cast only [i0, hp]
  refine sqN (sSet_eq (d := .int (tallP Hf l)) (eCall1_eq lc (tall_eq Hf ne)) (by show 9 < 18; decide)) ?_
  refine sqN (ρ' := RQ h HD R (alS k) F top wid (.val (encL l)) (.val (.int (lwP l))) (.val (.int (tallP Hf l))) (.val (.int (max 0 (R - lwP l)))) s11 s12 s13 s14 s15 s16 s17) (by
    show sSet 10 _ (RQ h HD R (alS k) F top wid (.val (encL l)) (.val (.int (lwP l))) (.val (.int (tallP Hf l))) s10 s11 s12 s13 s14 s15 s16 s17) = _
    clear S hH lc
    unfold RQ
    generalize alS k = A at *
    generalize encL l = EL at *
    generalize lwP l = L at *
    push_cast only []) ?_
  refine sqN (sSet_eq (d := .int (mvP k (max 0 (R - lwP l)))) (mv_get k _ F top wid _ _ _ _ _ _ _ _ _ _) (by show 11 < 18; decide)) ?_
  refine sqN ((sFor_eq (ds := l.map encPc) rfl).trans S) ?_
  unfold plS
  clear S hH lc
  generalize F ++ l.map (pcV Hf top (tallP Hf l) (mvP k (max 0 (R - lwP l)))) = FF at *
  refine sqN (ρ' := RQ h HD R (alS k) FF (top + tallP Hf l) wid (.val (encL l)) (.val (.int (lwP l))) (.val (.int (tallP Hf l))) (.val (.int (max 0 (R - lwP l)))) (.val (.int (mvP k (max 0 (R - lwP l))))) t12 t13 t14 t15 t16 s17) (by
    unfold RQ
    generalize alS k = A at *
    generalize encL l = EL at *
    generalize lwP l = L at *
    push_cast only []) ?_
  unfold RQ
  generalize alS k = A at *
  generalize encL l = EL at *
  generalize lwP l = L at *
  push_cast only []
theorem pl_all (k : Nat) : ∀ {ls : List (List Pc)} (F : List PyData) (top wid : Int) (s7 s8 s9 s10 s11 s12 s13 s14 s15 s16 s17 : Slot), (∀ l ∈ ls, l ≠ [] ∧ l.length ≤ 4096 ∧ ∀ p ∈ l, oDGet HD (.int p.c) = some (.int (Hf p.c))) → F.length + ls.length * 4096 < sizeLine →
    ∃ t7 t8 t9 t10 t11 t12 t13 t14 t15 t16 t17, forGo (gV 7) L__law_placed_2 (ls.map encL) (RQ h HD R (alS k) F top wid s7 s8 s9 s10 s11 s12 s13 s14 s15 s16 s17) = some (.nx (RQ h HD R (alS k) (ls.foldl (plS Hf R k) (F, top, wid)).1 (ls.foldl (plS Hf R k) (F, top, wid)).2.1 (ls.foldl (plS Hf R k) (F, top, wid)).2.2 t7 t8 t9 t10 t11 t12 t13 t14 t15 t16 t17))
  | [], F, top, wid, s7, s8, s9, s10, s11, s12, s13, s14, s15, s16, s17, _, _ => ⟨s7, s8, s9, s10, s11, s12, s13, s14, s15, s16, s17, rfl⟩
  | l :: ls, F, top, wid, s7, s8, s9, s10, s11, s12, s13, s14, s15, s16, s17, hl, hF => by
    obtain ⟨h1, h2, h3⟩ := hl l List.mem_cons_self
    rw [List.length_cons] at hF
    obtain ⟨u8, u9, u10, u11, u12, u13, u14, u15, u16, e⟩ := pl_two (h := h) (HD := HD) (Hf := Hf) (R := R) k l F top wid s8 s9 s10 s11 s12 s13 s14 s15 s16 s17 h1 h2 h3 (by omega)
    have lF : (plS Hf R k (F, top, wid) l).1.length = F.length + l.length := by unfold plS; rw [List.length_append, List.length_map]
    obtain ⟨t7, t8, t9, t10, t11, t12, t13, t14, t15, t16, t17, ih⟩ := pl_all k (ls := ls) (plS Hf R k (F, top, wid) l).1 (plS Hf R k (F, top, wid) l).2.1 (plS Hf R k (F, top, wid) l).2.2 (.val (encL l)) u8 u9 u10 u11 u12 u13 u14 u15 u16 s17 (fun l hq => hl l (List.mem_cons_of_mem _ hq)) (by rw [lF]; omega)
    refine ⟨t7, t8, t9, t10, t11, t12, t13, t14, t15, t16, t17, ?_⟩
    rw [List.map_cons, forGo]
    show ((some (RQ h HD R (alS k) F top wid (.val (encL l)) s8 s9 s10 s11 s12 s13 s14 s15 s16 s17)).bind _) = _
    rw [Option.bind_some, e]
    exact ih
end
theorem lplc_eq {HD : PyData} {Hf : Int → Int} {R : Int} (k : Nat) {ls : List (List Pc)} (hl : ∀ l ∈ ls, l ≠ [] ∧ l.length ≤ 4096 ∧ ∀ p ∈ l, oDGet HD (.int p.c) = some (.int (Hf p.c))) (hn : ls.length ≤ 4000) : F__law_placed [.list (ls.map encL), HD, .int R, .str (alS k)] = some (plV Hf R k ls) := by
  obtain ⟨t7, t8, t9, t10, t11, t12, t13, t14, t15, t16, t17, S⟩ := pl_all (h := .bor (.list (ls.map encL))) (HD := HD) (Hf := Hf) (R := R) k (ls := ls) [] 0 0 .un .un .un .un .un .un .un .un .un .un .un hl (by rw [sizeLine_eq, List.length_nil]; omega)
  have le0 : 0 ≤ sizeLine := Nat.zero_le _
  have le3 : 3 ≤ sizeLine := size_le (by decide)
  refine box_rt rfl ?_
  show B__law_placed [.bor (.list (ls.map encL)), .bor HD, .bor (.int R), .bor (.str (alS k)), .un, .un, .un, .un, .un, .un, .un, .un, .un, .un, .un, .un, .un, .un] = _
  unfold B__law_placed
  refine sqN (ρ' := [.bor (.list (ls.map encL)), .bor HD, .bor (.int R), .bor (.str (alS k)), .own (.list []), .un, .un, .un, .un, .un, .un, .un, .un, .un, .un, .un, .un, .un]) (by push_cast only [le0]) ?_
  refine sqN (ρ' := [.bor (.list (ls.map encL)), .bor HD, .bor (.int R), .bor (.str (alS k)), .own (.list []), .val (.int 0), .un, .un, .un, .un, .un, .un, .un, .un, .un, .un, .un, .un]) (by push_cast only []) ?_
  refine sqN (ρ' := RQ (.bor (.list (ls.map encL))) HD R (alS k) [] 0 0 .un .un .un .un .un .un .un .un .un .un .un) (by unfold RQ; push_cast only []) ?_
  refine sqN ((sFor_eq (ds := ls.map encL) rfl).trans S) ?_
  unfold plV
  generalize ls.foldl (plS Hf R k) ([], 0, 0) = st at *
  clear S
  unfold RQ
  push_cast only [le3]


abbrev Tbl := List (Int × PyData)
def eR (r : Int × PyData) : PyData × PyData := (.int r.1, r.2)
def tbD (R : Tbl) : PyData := .dict (R.map eR)
def tg : Tbl → Int → Option PyData
  | [], _ => none
  | p :: r, n => if p.1 = n then some p.2 else tg r n
theorem tg_val : ∀ (R : Tbl) (n : Int), valD unK (R.map eR) (.inl n) = tg R n
  | [], n => rfl
  | p :: R, n => by
    rw [List.map_cons, valD, tg]
    have : unK (eR p).1 = some (.inl p.1) := rfl
    rw [this]
    by_cases c : p.1 = n
    · rw [if_pos (by rw [c]), if_pos c]; rfl
    · rw [if_neg (fun z => c (Sum.inl.inj (Option.some.inj z))), if_neg c, tg_val R n]
theorem dGet_T (R : Tbl) (n : Int) : dGet (tbD R) (.int n) = some (tg R n) := by
  rw [← tg_val]
  cases R with
  | nil => rfl
  | cons p R => rfl
theorem oDGet_T {R : Tbl} {n : Int} {v : PyData} (h : tg R n = some v) : oDGet (tbD R) (.int n) = some v := by unfold oDGet; rw [dGet_T, h]; rfl
theorem oDIn_T (R : Tbl) (n : Int) : oDIn (.int n) (tbD R) = some (.bool (tg R n).isSome) := by unfold oDIn; rw [dGet_T]; rfl
theorem hasD_T : ∀ (R : Tbl) (n : Int), (∀ p ∈ R, p.1 ≠ n) → hasD unK (R.map eR) (.inl n) = false
  | [], n, _ => rfl
  | p :: R, n, h => by
    rw [List.map_cons, hasD]
    have : unK (eR p).1 = some (.inl p.1) := rfl
    rw [this, hasD_T R n fun q hq => h q (List.mem_cons_of_mem _ hq)]
    exact if_neg fun z => h p List.mem_cons_self (Sum.inl.inj (Option.some.inj z))
theorem dPut_new {R : Tbl} {n : Int} (v : PyData) (h : ∀ p ∈ R, p.1 ≠ n) (hl : R.length < 100000) : dPut (tbD R) (.int n) v = some (tbD (R ++ [(n, v)])) := by
  have hs := hasD_T R n h
  have e : (if (R.map eR).length < sizeLine then some (PyData.dict (putD unK (R.map eR) (.int n) (.inl n) v)) else none) = some (tbD (R ++ [(n, v)])) := by
    rw [if_pos (by rw [List.length_map, sizeLine_eq]; omega)]
    unfold putD tbD
    rw [hs, List.map_append]; rfl
  cases R with
  | nil => exact e
  | cons p R => exact e
theorem mDPutO_eq {i : Nat} {fv fk : ME} {ρ : Rho} {w w1 w2 : Wd} {d v k d' : PyData} (h0 : ρ[i]? = some (.own d)) (h1 : fv ρ w = some (v, w1)) (h2 : fk ρ w1 = some (k, w2)) (h3 : dPut d k v = some d') : mDPutO i fv fk ρ w = some (.nx (ρ.set i (.own d')), w2) := by
  unfold mDPutO
  rw [h0]
  simp only [h1, Option.bind_some, h2, h3, Option.map_some]
theorem clean_units (us : List Un) : clean 9 (.list (us.map encU)) = true := by
  show cleanA 8 _ = true
  refine cleanA_map (fun u => ?_) us
  have : PyData.strOk (kdU u.kd) = true := by
    unfold kdU
    split
    · decide +kernel
    · split <;> decide +kernel
  show (PyData.strOk (kdU u.kd) && true) = true
  rw [this]; rfl
theorem clean_lines (LS : List (List Pc)) : clean 9 (.list (LS.map encL)) = true := by
  show cleanA 8 _ = true
  refine cleanA_map (fun l => ?_) LS
  show cleanA 7 (l.map encPc) = true
  exact cleanA_map (fun p => rfl) l
def wdT (f : Int → Int) (l : List Int) : Tbl := l.map fun n => (n, .int (f n))
theorem wdT_k {f : Int → Int} {l : List Int} {p : Int × PyData} (h : p ∈ wdT f l) : p.1 ∈ l := by
  obtain ⟨n, hn, rfl⟩ := List.mem_map.mp h
  exact hn
theorem wdT_get {f : Int → Int} : ∀ {l : List Int} {n : Int}, n ∈ l → tg (wdT f l) n = some (.int (f n))
  | m :: l, n, h => by
    show tg ((m, PyData.int (f m)) :: wdT f l) n = _
    rw [tg]
    by_cases c : m = n
    · rw [if_pos c, c]
    · rw [if_neg c]
      rcases List.mem_cons.mp h with h | h
      · exact absurd h.symm c
      · exact wdT_get h
theorem wdT_len (f : Int → Int) (l : List Int) : (wdT f l).length = l.length := List.length_map _
theorem dcp_T (R : Tbl) : dcp (tbD R) = some (tbD R) := by
  cases R <;> rfl
theorem eq_W (f : Int → Int) {l : List Int} (nd : l.Nodup) (ne : Bool) : oDEq ne (tbD (wdT f l)) (tbD (wdT f l)) = some (.bool (!ne)) := by
  have u : (unKs (((wdT f l).map eR).map (·.1))).isSome = true := by
    have : ((wdT f l).map eR).map (·.1) = (l.map fun n => (Sum.inl n : Key)).map keyD := by unfold wdT; rw [List.map_map, List.map_map, List.map_map]; rfl
    rw [this, unKs_keys]; rfl
  have sh : ∀ l : List Int, shapedAll (((wdT f l).map eR).map (·.2)) = true := by
    intro l
    induction l with
    | nil => rfl
    | cons n l ih =>
      show (SeqAt.shaped (.int (f n)) && shapedAll (((wdT f l).map eR).map (·.2))) = true
      rw [ih, clean_shaped (n := 9) (by decide) rfl]; rfl
  have go : ∀ k : List Int, (∀ n ∈ k, n ∈ l) → eqvD ((wdT f k).map eR) ((wdT f l).map eR) = true := by
    intro k
    induction k with
    | nil => intro _; rfl
    | cons n k ih =>
      intro h
      show ((match (unK (.int n)).bind (valD unK ((wdT f l).map eR)) with | some v => PyData.eqv (.int (f n)) v | none => false) && eqvD ((wdT f k).map eR) ((wdT f l).map eR)) = true
      rw [ih fun m hm => h m (List.mem_cons_of_mem _ hm)]
      have h1 : (unK (.int n)).bind (valD unK ((wdT f l).map eR)) = some (.int (f n)) := by
        show valD unK ((wdT f l).map eR) (.inl n) = _
        rw [tg_val, wdT_get (h n List.mem_cons_self)]
      rw [h1, Bool.and_true]
      exact (eqv_iff 9 _ _ rfl rfl).mpr rfl
  show (if _ then _ else _) = _
  rw [if_pos ⟨u, u, sh l, sh l⟩, go l fun n h => h]
  simp


/-! ### the children's tables -/
theorem tg_ne {c : Int} {v : PyData} : ∀ {R : Tbl} {x : Int}, x ≠ c → tg (R ++ [(c, v)]) x = tg R x
  | [], x, h => by
    show (if c = x then some v else none) = none
    exact if_neg fun z => h z.symm
  | p :: R, x, h => by rw [List.cons_append, tg, tg, tg_ne h]
theorem tg_new {c : Int} {v : PyData} : ∀ {R : Tbl}, (∀ p ∈ R, p.1 ≠ c) → tg (R ++ [(c, v)]) c = some v
  | [], _ => if_pos rfl
  | p :: R, h => by
    rw [List.cons_append, tg, if_neg (h p List.mem_cons_self)]
    exact tg_new fun q hq => h q (List.mem_cons_of_mem _ hq)
theorem tg_out {c : Int} : ∀ {R : Tbl}, (∀ p ∈ R, p.1 ≠ c) → tg R c = none
  | [], _ => rfl
  | p :: R, h => by
    rw [tg, if_neg (h p List.mem_cons_self)]
    exact tg_out fun q hq => h q (List.mem_cons_of_mem _ hq)
theorem hasD_last {c : Int} {v : PyData} : ∀ R : Tbl, hasD unK ((R ++ [(c, v)]).map eR) (.inl c) = true
  | [] => if_pos rfl
  | p :: R => by
    rw [List.cons_append, List.map_cons, hasD, hasD_last R]; split <;> rfl
theorem repD_last {c : Int} {v v' : PyData} : ∀ {R : Tbl}, (∀ p ∈ R, p.1 ≠ c) → repD unK ((R ++ [(c, v)]).map eR) (.inl c) v' = (R ++ [(c, v')]).map eR
  | [], _ => by
    show (if unK (eR (c, v)).1 = some (.inl c) then ((eR (c, v)).1, v') else eR (c, v)) :: [] = _
    have u : unK (eR (c, v)).1 = some (.inl c) := rfl
    rw [if_pos u]; rfl
  | p :: R, h => by
    rw [List.cons_append, List.cons_append, List.map_cons, List.map_cons, repD, repD_last fun q hq => h q (List.mem_cons_of_mem _ hq)]
    have : unK (eR p).1 = some (.inl p.1) := rfl
    rw [this, if_neg (fun z => h p List.mem_cons_self (Sum.inl.inj (Option.some.inj z)))]
theorem dPut_last {R : Tbl} {c : Int} {v : PyData} (v' : PyData) (h : ∀ p ∈ R, p.1 ≠ c) (hl : R.length < 100000) : dPut (tbD (R ++ [(c, v)])) (.int c) v' = some (tbD (R ++ [(c, v')])) := by
  have e : (if ((R ++ [(c, v)]).map eR).length < sizeLine then some (PyData.dict (putD unK ((R ++ [(c, v)]).map eR) (.int c) (.inl c) v')) else none) = some (tbD (R ++ [(c, v')])) := by
    rw [if_pos (by rw [List.length_map, List.length_append, List.length_singleton, sizeLine_eq]; omega)]
    unfold putD tbD
    rw [hasD_last, if_pos rfl, repD_last h]
  cases R with
  | nil => exact e
  | cons p R => exact e
theorem sDPut_eq {i : Nat} {fv fk : SE} {ρ : Rho} {d v k d' : PyData} (h0 : ρ[i]? = some (.own d)) (h1 : fv ρ = some v) (h2 : fk ρ = some k) (h3 : dPut d k v = some d') : DV.sDPut i fv fk ρ = some (.nx (ρ.set i (.own d'))) := by
  unfold DV.sDPut
  rw [h0]
  simp only [h1, h2, h3, Option.bind_some]
def upd {α : Type} (f : Int → α) (c : Int) (v : α) : Int → α := fun x => if x = c then v else f x
theorem upd_eq {α : Type} {f : Int → α} {c : Int} {v : α} : upd f c v c = v := if_pos rfl
theorem upd_ne {α : Type} {f : Int → α} {c x : Int} {v : α} (h : x ≠ c) : upd f c v x = f x := if_neg h
theorem wdT_upd {f : Int → Int} {c v : Int} {cs : List Int} (h : c ∉ cs) : wdT (upd f c v) (cs ++ [c]) = wdT f cs ++ [(c, .int v)] := by
  unfold wdT
  rw [List.map_append]
  refine congr (congrArg _ (List.map_congr_left fun x hx => ?_)) ?_
  · rw [upd_ne (show x ≠ c from fun z => h (by rw [← z]; exact hx))]
  · show [(c, PyData.int (upd f c v c))] = _
    rw [upd_eq]
structure KI (cs : List Int) (A B C : Tbl) (tx : Int → Option (List Nat)) (W sc : Int → Int) : Prop where
  kA : ∀ p ∈ A, p.1 ∈ cs
  kB : ∀ p ∈ B, p.1 ∈ cs
  kC : ∀ p ∈ C, p.1 ∈ cs
  lA : A.length ≤ cs.length
  lB : B.length ≤ cs.length
  lC : C.length ≤ cs.length
  t : ∀ c ∈ cs, ∀ T, tx c = some T → tg A c = some (tS T) ∧ tg C c = some (.int (sc c)) ∧ Asc T ∧ T.length ≤ 132
  n : ∀ c ∈ cs, tx c = none → tg A c = none ∧ tg B c = some (.int (W c))
section
variable {cs : List Int} {A B C : Tbl} {tx : Int → Option (List Nat)} {W sc : Int → Int}
theorem KI.dok (K : KI cs A B C tx W sc) {c : Int} (hc : c ∈ cs) : DOk (tbD A) (tbD B) (tbD C) tx W sc c := by
  refine ⟨?_, fun T hT => ?_, fun hn => ?_⟩
  · rw [oDIn_T]
    cases h : tx c with
    | none => rw [(K.n c hc h).1]; rfl
    | some T => rw [(K.t c hc T h).1]; rfl
  · obtain ⟨a, b, d, e⟩ := K.t c hc T hT
    exact ⟨oDGet_T a, oDGet_T b, d, by omega⟩
  · exact oDGet_T (K.n c hc hn).2
theorem KI.text (K : KI cs A B C tx W sc) {c : Int} (hc : c ∉ cs) {T : List Nat} (aT : Asc T) (lT : T.length ≤ 132) (s : Int) : KI (cs ++ [c]) (A ++ [(c, tS T)]) B (C ++ [(c, .int s)]) (upd tx c (some T)) (upd W c 0) (upd sc c s) := by
  have nA : ∀ p ∈ A, p.1 ≠ c := fun p hp z => hc (z ▸ K.kA p hp)
  have nC : ∀ p ∈ C, p.1 ≠ c := fun p hp z => hc (z ▸ K.kC p hp)
  refine ⟨fun p hp => ?_, fun p hp => List.mem_append_left _ (K.kB p hp), fun p hp => ?_, ?_, ?_, ?_, fun x hx U hU => ?_, fun x hx hU => ?_⟩
  · rcases List.mem_append.mp hp with hp | hp
    · exact List.mem_append_left _ (K.kA p hp)
    · rw [List.mem_singleton.mp hp]; exact List.mem_append_right _ List.mem_cons_self
  · rcases List.mem_append.mp hp with hp | hp
    · exact List.mem_append_left _ (K.kC p hp)
    · rw [List.mem_singleton.mp hp]; exact List.mem_append_right _ List.mem_cons_self
  · rw [List.length_append, List.length_append]; have := K.lA; simp only [List.length_singleton]; omega
  · rw [List.length_append]; have := K.lB; omega
  · rw [List.length_append, List.length_append]; have := K.lC; simp only [List.length_singleton]; omega
  · by_cases e : x = c
    · subst e
      rw [upd_eq] at hU ⊢
      cases hU
      exact ⟨tg_new nA, tg_new nC, aT, lT⟩
    · rw [upd_ne e] at hU ⊢
      rw [tg_ne e, tg_ne e]
      refine K.t x ?_ U hU
      rcases List.mem_append.mp hx with h | h
      · exact h
      · exact absurd (List.mem_singleton.mp h) e
  · by_cases e : x = c
    · subst e
      rw [upd_eq] at hU
      cases hU
    · rw [upd_ne e] at hU ⊢
      rw [tg_ne e]
      refine K.n x ?_ hU
      rcases List.mem_append.mp hx with h | h
      · exact h
      · exact absurd (List.mem_singleton.mp h) e
theorem KI.box (K : KI cs A B C tx W sc) {c : Int} (hc : c ∉ cs) (v : Int) : KI (cs ++ [c]) A (B ++ [(c, .int v)]) C (upd tx c none) (upd W c v) (upd sc c 0) := by
  have nA : ∀ p ∈ A, p.1 ≠ c := fun p hp z => hc (z ▸ K.kA p hp)
  have nB : ∀ p ∈ B, p.1 ≠ c := fun p hp z => hc (z ▸ K.kB p hp)
  refine ⟨fun p hp => List.mem_append_left _ (K.kA p hp), fun p hp => ?_, fun p hp => List.mem_append_left _ (K.kC p hp), ?_, ?_, ?_, fun x hx U hU => ?_, fun x hx hU => ?_⟩
  · rcases List.mem_append.mp hp with hp | hp
    · exact List.mem_append_left _ (K.kB p hp)
    · rw [List.mem_singleton.mp hp]; exact List.mem_append_right _ List.mem_cons_self
  · rw [List.length_append]; have := K.lA; omega
  · rw [List.length_append, List.length_append]; have := K.lB; simp only [List.length_singleton]; omega
  · rw [List.length_append]; have := K.lC; omega
  · by_cases e : x = c
    · subst e
      rw [upd_eq] at hU
      cases hU
    · rw [upd_ne e] at hU ⊢
      refine K.t x ?_ U hU
      rcases List.mem_append.mp hx with h | h
      · exact h
      · exact absurd (List.mem_singleton.mp h) e
  · by_cases e : x = c
    · subst e
      rw [upd_eq]
      exact ⟨tg_out nA, tg_new nB⟩
    · rw [upd_ne e] at hU ⊢
      rw [tg_ne e]
      refine K.n x ?_ hU
      rcases List.mem_append.mp hx with h | h
      · exact h
      · exact absurd (List.mem_singleton.mp h) e
theorem chU_upd {c : Int} (hc : c ∉ cs) (a : Option (List Nat)) (b d : Int) : (cs ++ [c]).flatMap (chU (upd tx c a) (upd W c b) (upd sc c d)) = cs.flatMap (chU tx W sc) ++ (match a with | some T => txtU c T d | none => [⟨2, c, 0, 0, b, 0⟩]) := by
  rw [List.flatMap_append]
  refine congr (congrArg _ ?_) ?_
  · have : ∀ l : List Int, (∀ x ∈ l, x ≠ c) → l.flatMap (chU (upd tx c a) (upd W c b) (upd sc c d)) = l.flatMap (chU tx W sc) := by
      intro l
      induction l with
      | nil => intro _; rfl
      | cons x l ih =>
        intro h
        rw [List.flatMap_cons, List.flatMap_cons, ih fun y hy => h y (List.mem_cons_of_mem _ hy)]
        have hx := h x List.mem_cons_self
        unfold chU
        rw [upd_ne hx, upd_ne hx, upd_ne hx]
    exact this cs fun x hx z => hc (z ▸ hx)
  · rw [List.flatMap_cons, List.flatMap_nil, List.append_nil]
    unfold chU
    rw [upd_eq, upd_eq, upd_eq]
    all_goals (cases a <;> rfl)
theorem KI.chl (K : KI cs A B C tx W sc) : (cs.flatMap (chU tx W sc)).length ≤ cs.length * 133 := by
  have : ∀ l : List Int, (∀ x ∈ l, x ∈ cs) → (l.flatMap (chU tx W sc)).length ≤ l.length * 133 := by
    intro l
    induction l with
    | nil => intro _; exact Nat.le_refl _
    | cons x l ih =>
      intro h
      rw [List.flatMap_cons, List.length_append, List.length_cons]
      have i := ih fun y hy => h y (List.mem_cons_of_mem _ hy)
      have : (chU tx W sc x).length ≤ 133 := by
        unfold chU
        cases hx : tx x with
        | none => exact Nat.le_of_ble_eq_true rfl
        | some T =>
          obtain ⟨_, _, aT, lT⟩ := K.t x (h x List.mem_cons_self) T hx
          have := txtU_len x T aT (by omega) (sc x)
          show (txtU x T (sc x)).length ≤ 133
          omega
      omega
  exact this cs fun x hx => hx
end


def RL (SC : PyData) (h : Nat) (OR A B C D : PyData) (us : List PyData) (s8 s9 s10 s11 s12 s13 s14 s15 s16 s17 s18 : Slot) : Rho := [.scr SC, .st h, .val OR, .own A, .own B, .own C, .own D, .own (.list us), s8, s9, s10, s11, s12, s13, s14, s15, s16, s17, s18]
theorem sExtO_eq {i j : Nat} {ρ : Rho} {l k : List PyData} (h1 : ρ[i]? = some (.own (.list l))) (h2 : ρ[j]? = some (.own (.list k))) (h3 : l.length + k.length ≤ sizeLine) : sExtO i j ρ = some (.nx (ρ.set i (.own (.list (l ++ k))))) := by
  unfold sExtO
  rw [h1, h2]
  exact if_pos h3
section
variable {cs : List Int} {A B C : Tbl} {tx : Int → Option (List Nat)} {W sc Hf : Int → Int} {h0 h : Nat}
theorem kid_ex (hne : h0 ≠ h) {w : Wd} (s : StA w h0 h) (K : KI cs A B C tx W sc) {c : Int} (hc : c ∉ cs) (hlen : cs.length ≤ 100) (SC OR : PyData) (s9 s10 s11 s12 s13 s14 s15 s16 s17 s18 : Slot) :
    ∃ A' B' C' tx' W' sc' Hf' w' t9, L_law_1 (RL SC h OR (tbD A) (tbD B) (tbD C) (tbD (wdT Hf cs)) ((cs.flatMap (chU tx W sc)).map encU) (.val (.int c)) s9 s10 s11 s12 s13 s14 s15 s16 s17 s18) w = some (.nx (RL SC h OR (tbD A') (tbD B') (tbD C') (tbD (wdT Hf' (cs ++ [c]))) (((cs ++ [c]).flatMap (chU tx' W' sc')).map encU) (.val (.int c)) t9 s10 s11 s12 s13 s14 s15 s16 s17 s18), w') ∧ KI (cs ++ [c]) A' B' C' tx' W' sc' ∧ StA w' h0 h ∧ Sth w w' h0 h := by
  have nA : ∀ p ∈ A, p.1 ≠ c := fun p hp z => hc (z ▸ K.kA p hp)
  have nB : ∀ p ∈ B, p.1 ≠ c := fun p hp z => hc (z ▸ K.kB p hp)
  have nC : ∀ p ∈ C, p.1 ≠ c := fun p hp z => hc (z ▸ K.kC p hp)
  have nD : ∀ p ∈ wdT Hf cs, p.1 ≠ c := fun p hp z => hc (z ▸ wdT_k hp)
  have lD := wdT_len Hf cs
  have lA := K.lA
  have lB := K.lB
  have lC := K.lC
  have lU := K.chl
  generalize hU : cs.flatMap (chU tx W sc) = us at *
  obtain ⟨d1, w1, e1, a1, b1, s1, t1⟩ := next_ex hne s 21 (by decide) (by decide)
  obtain ⟨d2, w2, e2, a2, b2, s2, t2⟩ := next_ex hne s1 3 (by decide) (by decide)
  have p1 := dPut_new (.int d1) nD (by omega)
  have c1 := mCall_eq (Fn := F__law_next) (r := maQ (mVar 1) (maD (mL (eK (.int 21))) maNil)) (ρ := RL SC h OR (tbD A) (tbD B) (tbD C) (tbD (wdT Hf cs)) (us.map encU) (.val (.int c)) s9 s10 s11 s12 s13 s14 s15 s16 s17 s18) (w := w) (args := [.r h, .d (.int 21)]) (w1 := w) rfl e1
  have g1 := mDPutO_eq (i := 6) (ρ := RL SC h OR (tbD A) (tbD B) (tbD C) (tbD (wdT Hf cs)) (us.map encU) (.val (.int c)) s9 s10 s11 s12 s13 s14 s15 s16 s17 s18) (fk := mL (eV 8)) (k := .int c) (w2 := w1) rfl c1 rfl p1
  have c2 := mCall_eq (Fn := F__law_next) (r := maQ (mVar 1) (maD (mL (eK (.int 3))) maNil)) (ρ := RL SC h OR (tbD A) (tbD B) (tbD C) (tbD (wdT Hf cs ++ [(c, .int d1)])) (us.map encU) (.val (.int c)) s9 s10 s11 s12 s13 s14 s15 s16 s17 s18) (w := w1) (args := [.r h, .d (.int 3)]) (w1 := w1) rfl e2
  have ct : mT (mOp oGt (mCall F__law_next (maQ (mVar 1) (maD (mL (eK (.int 3))) maNil))) (mL (eK (.int 0)))) (RL SC h OR (tbD A) (tbD B) (tbD C) (tbD (wdT Hf cs ++ [(c, .int d1)])) (us.map encU) (.val (.int c)) s9 s10 s11 s12 s13 s14 s15 s16 s17 s18) w1 = some (decide (0 < d2), w2) := by
    clear e1 c1 g1 p1
    unfold RL at *
    generalize tbD A = TA at *
    generalize tbD B = TB at *
    generalize tbD C = TC at *
    generalize tbD (wdT Hf cs ++ [(c, .int d1)]) = TD at *
    generalize us.map encU = UU at *
    push_cast [c2]
  have le0 : 0 ≤ sizeLine := Nat.zero_le _
  have le2 : 2 ≤ sizeLine := size_le (by decide)
  have le3 : 3 ≤ sizeLine := size_le (by decide)
  have le6 : 6 ≤ sizeLine := size_le (by decide)
  unfold L_law_1
  by_cases hd : 0 < d2
  · rw [decide_eq_true hd] at ct
    obtain ⟨T, w3, e3, lT, pT, s3, t3⟩ := lstr_ex hne s2
    have aT := pT.asc
    obtain ⟨d4, w4, e4, a4, b4, s4, t4⟩ := next_ex hne s3 2 (by decide) (by decide)
    obtain ⟨n, hn, en⟩ := pickI [6, 20] a4 (by show d4 < 2; omega)
    have hn2 : 0 < n ∧ n ≤ 20 := by simp at hn; omega
    obtain ⟨d5, w5, e5, a5, b5, s5, t5⟩ := next_ex hne s4 n hn2.1 (by omega)
    have en : oIx (.list [.int 6, .int 20]) (.int d4) = some (.int n) := en
    have c3 := mCall_eq (Fn := F__law_string) (r := maQ (mVar 1) maNil) (ρ := RL SC h OR (tbD A) (tbD B) (tbD C) (tbD (wdT Hf cs ++ [(c, .int d1)])) (us.map encU) (.val (.int c)) s9 s10 s11 s12 s13 s14 s15 s16 s17 s18) (w := w2) (args := [.r h]) (w1 := w2) rfl e3
    have p3 := dPut_new (tS T) nA (by omega)
    have g3 := mDPutO_eq (i := 3) (ρ := RL SC h OR (tbD A) (tbD B) (tbD C) (tbD (wdT Hf cs ++ [(c, .int d1)])) (us.map encU) (.val (.int c)) s9 s10 s11 s12 s13 s14 s15 s16 s17 s18) (fk := mL (eV 8)) (k := .int c) (w2 := w3) rfl c3 rfl p3
    have c4 := mCall_eq (Fn := F__law_next) (r := maQ (mVar 1) (maD (mL (eK (.int 2))) maNil)) (ρ := RL SC h OR (tbD (A ++ [(c, tS T)])) (tbD B) (tbD C) (tbD (wdT Hf cs ++ [(c, .int d1)])) (us.map encU) (.val (.int c)) s9 s10 s11 s12 s13 s14 s15 s16 s17 s18) (w := w3) (args := [.r h, .d (.int 2)]) (w1 := w3) rfl e4
    have r5 : maQ (mVar 1) (maD (mOp oIx (mL (eLst (aCons (eK (.int 6)) (aCons (eK (.int 20)) aNil)))) (mCall F__law_next (maQ (mVar 1) (maD (mL (eK (.int 2))) maNil)))) maNil) (RL SC h OR (tbD (A ++ [(c, tS T)])) (tbD B) (tbD C) (tbD (wdT Hf cs ++ [(c, .int d1)])) (us.map encU) (.val (.int c)) s9 s10 s11 s12 s13 s14 s15 s16 s17 s18) w3 = some ([.r h, .d (.int n)], w4) := by
      have q : mOp oIx (mL (eLst (aCons (eK (.int 6)) (aCons (eK (.int 20)) aNil)))) (mCall F__law_next (maQ (mVar 1) (maD (mL (eK (.int 2))) maNil))) (RL SC h OR (tbD (A ++ [(c, tS T)])) (tbD B) (tbD C) (tbD (wdT Hf cs ++ [(c, .int d1)])) (us.map encU) (.val (.int c)) s9 s10 s11 s12 s13 s14 s15 s16 s17 s18) w3 = some (.int n, w4) := by
        clear g3 p3 c3 e3 g1 c1 ct c2
        unfold RL at *
        generalize tbD (A ++ [(c, tS T)]) = TA at *
        generalize tbD B = TB at *
        generalize tbD C = TC at *
        generalize tbD (wdT Hf cs ++ [(c, .int d1)]) = TD at *
        generalize us.map encU = UU at *
        push_cast [c4, en, le2]
      rw [maQ_r]
      show ((some ((WV.r h), w3)).bind _) = _
      rw [Option.bind_some, maD_r, q]; rfl
    have c5 := mCall_eq (Fn := F__law_next) r5 e5
    have p5 := dPut_new (.int (1 + d5)) nC (by omega)
    have v5 : mOp oAdd (mL (eK (.int 1))) (mCall F__law_next (maQ (mVar 1) (maD (mOp oIx (mL (eLst (aCons (eK (.int 6)) (aCons (eK (.int 20)) aNil)))) (mCall F__law_next (maQ (mVar 1) (maD (mL (eK (.int 2))) maNil)))) maNil))) (RL SC h OR (tbD (A ++ [(c, tS T)])) (tbD B) (tbD C) (tbD (wdT Hf cs ++ [(c, .int d1)])) (us.map encU) (.val (.int c)) s9 s10 s11 s12 s13 s14 s15 s16 s17 s18) w3 = some (.int (1 + d5), w5) := by
      rw [mOp_r, mL_r]
      show ((some (PyData.int 1, w3)).bind _) = _
      rw [Option.bind_some, c5]
      show (oAdd (.int 1) (.int d5)).map (fun d => (d, w5)) = _
      rw [oAdd_i]; rfl
    have g5 := mDPutO_eq (i := 5) (ρ := RL SC h OR (tbD (A ++ [(c, tS T)])) (tbD B) (tbD C) (tbD (wdT Hf cs ++ [(c, .int d1)])) (us.map encU) (.val (.int c)) s9 s10 s11 s12 s13 s14 s15 s16 s17 s18) (fk := mL (eV 8)) (k := .int c) (w2 := w5) rfl v5 rfl p5
    have hD1 : oDGet (tbD (wdT Hf cs ++ [(c, .int d1)])) (.int c) = some (.int d1) := oDGet_T (tg_new nD)
    have hA1 : oDGet (tbD (A ++ [(c, tS T)])) (.int c) = some (tS T) := oDGet_T (tg_new nA)
    have hC1 : oDGet (tbD (C ++ [(c, .int (1 + d5))])) (.int c) = some (.int (1 + d5)) := oDGet_T (tg_new nC)
    have p6 := dPut_last (v := .int d1) (.int (max 1 d1)) nD (by omega)
    have g6 := mS_nx (w := w5) (sDPut_eq (i := 6) (fv := eCall cMax2 (aCons (eK (.int 1)) (aCons (eOp oDGet (eB 6) (eB 8)) aNil))) (fk := eB 8) (ρ := RL SC h OR (tbD (A ++ [(c, tS T)])) (tbD B) (tbD (C ++ [(c, .int (1 + d5))])) (tbD (wdT Hf cs ++ [(c, .int d1)])) (us.map encU) (.val (.int c)) s9 s10 s11 s12 s13 s14 s15 s16 s17 s18) (v := .int (max 1 d1)) (k := .int c) rfl (by
      clear g1 c1 ct c2 g3 c3 c4 r5 c5 v5 g5 p6 p5 p3 hA1 hC1
      unfold RL
      generalize tbD (A ++ [(c, tS T)]) = TA at *
      generalize tbD B = TB at *
      generalize tbD (C ++ [(c, .int (1 + d5))]) = TC at *
      generalize tbD (wdT Hf cs ++ [(c, .int d1)]) = TD at *
      generalize us.map encU = UU at *
      push_cast only [hD1]) rfl p6)
    have wD : wdT (upd Hf c (max 1 d1)) (cs ++ [c]) = wdT Hf cs ++ [(c, .int (max 1 d1))] := wdT_upd hc
    have tu := txtU_eq c T aT (by omega) (1 + d5)
    have lu := lunits_eq (c := c) (s := 1 + d5) aT (by omega : T.length ≤ 4000)
    have lt := txtU_len c T aT (by omega) (1 + d5)
    have g9 := mS_nx (w := w5) (sOwn_eq (k := 9) (ρ := RL SC h OR (tbD (A ++ [(c, tS T)])) (tbD B) (tbD (C ++ [(c, .int (1 + d5))])) (tbD (wdT Hf cs ++ [(c, .int (max 1 d1))])) (us.map encU) (.val (.int c)) s9 s10 s11 s12 s13 s14 s15 s16 s17 s18) (e := eCall F_text_units (aCons (eV 8) (aCons (eOp oDGet (eB 3) (eB 8)) (aCons (eOp oDGet (eB 5) (eB 8)) aNil)))) (d := .list ((txtU c T (1 + d5)).map encU)) (by
      clear g1 c1 ct c2 g3 c3 c4 r5 c5 v5 g5 p6 p5 p3 g6 hD1
      unfold RL
      generalize tbD (A ++ [(c, tS T)]) = TA at *
      generalize tbD B = TB at *
      generalize tbD (C ++ [(c, .int (1 + d5))]) = TC at *
      generalize tbD (wdT Hf cs ++ [(c, .int (max 1 d1))]) = TD at *
      generalize us.map encU = UU at *
      generalize PyData.list ((txtU c T (1 + d5)).map encU) = TU at *
      generalize tS T = TT at *
      push_cast only [hA1, hC1, tu]) (by show 9 < 19; decide))
    have ne := oNe_self (clean_units (txtU c T (1 + d5)))
    have cf : mLB (bOr (bNot (bV (eIs "list" (eB 9)))) (bT (eOp oNe (eB 9) (eCall F__law_units (aCons (eV 8) (aCons (eOp oDGet (eB 3) (eB 8)) (aCons (eOp oDGet (eB 5) (eB 8)) aNil))))))) (RL SC h OR (tbD (A ++ [(c, tS T)])) (tbD B) (tbD (C ++ [(c, .int (1 + d5))])) (tbD (wdT Hf cs ++ [(c, .int (max 1 d1))])) (us.map encU) (.val (.int c)) (.own (.list ((txtU c T (1 + d5)).map encU))) s10 s11 s12 s13 s14 s15 s16 s17 s18) w5 = some (false, w5) := by
      clear g1 c1 ct c2 g3 c3 c4 r5 c5 v5 g5 p6 p5 p3 g6 g9 hD1
      have isl : isT "list" (.list ((txtU c T (1 + d5)).map encU)) = some true := rfl
      unfold RL
      generalize tbD (A ++ [(c, tS T)]) = TA at *
      generalize tbD B = TB at *
      generalize tbD (C ++ [(c, .int (1 + d5))]) = TC at *
      generalize tbD (wdT Hf cs ++ [(c, .int (max 1 d1))]) = TD at *
      generalize us.map encU = UU at *
      generalize PyData.list ((txtU c T (1 + d5)).map encU) = TU at *
      generalize tS T = TT at *
      push_cast [hA1, hC1, lu, isl, ne]
    have gx := mS_nx (w := w5) (sExtO_eq (i := 7) (j := 9) (ρ := RL SC h OR (tbD (A ++ [(c, tS T)])) (tbD B) (tbD (C ++ [(c, .int (1 + d5))])) (tbD (wdT Hf cs ++ [(c, .int (max 1 d1))])) (us.map encU) (.val (.int c)) (.own (.list ((txtU c T (1 + d5)).map encU))) s10 s11 s12 s13 s14 s15 s16 s17 s18) (l := us.map encU) (k := (txtU c T (1 + d5)).map encU) rfl rfl (by rw [List.length_map, List.length_map, sizeLine_eq]; omega))
    have hU2 : (cs ++ [c]).flatMap (chU (upd tx c (some T)) (upd W c 0) (upd sc c (1 + d5))) = us ++ txtU c T (1 + d5) := by rw [← hU]; exact chU_upd hc (some T) 0 (1 + d5)
    refine ⟨A ++ [(c, tS T)], B, C ++ [(c, .int (1 + d5))], upd tx c (some T), upd W c 0, upd sc c (1 + d5), upd Hf c (max 1 d1), w5, .own (.list ((txtU c T (1 + d5)).map encU)), ?_, K.text hc aT lT (1 + d5), s5, t1.trans (t2.trans (t3.trans (t4.trans t5)))⟩
    rw [hU2, wD, List.map_append]
    refine mSqN g1 ((mIf_t ct).trans ?_)
    refine mSqN g3 (mSqN g5 (mSqN g6 (mSqN g9 (mSqN ((mIf_f cf).trans rfl) gx))))
  · rw [decide_eq_false hd] at ct
    obtain ⟨d3, w3, e3, a3, b3, s3, t3⟩ := next_ex hne s2 20 (by decide) (by decide)
    obtain ⟨d4, w4, e4, a4, b4, s4, t4⟩ := next_ex hne s3 61 (by decide) (by decide)
    obtain ⟨d5, w5, e5, a5, b5, s5, t5⟩ := next_ex hne s4 3 (by decide) (by decide)
    obtain ⟨n, hn, en⟩ := pickI [0, d3, d4] a5 (by show d5 < 3; omega)
    have en : oIx (.list [.int 0, .int d3, .int d4]) (.int d5) = some (.int n) := en
    have c3 := mCall_eq (Fn := F__law_next) (r := maQ (mVar 1) (maD (mL (eK (.int 20))) maNil)) (ρ := RL SC h OR (tbD A) (tbD B) (tbD C) (tbD (wdT Hf cs ++ [(c, .int d1)])) (us.map encU) (.val (.int c)) s9 s10 s11 s12 s13 s14 s15 s16 s17 s18) (w := w2) (args := [.r h, .d (.int 20)]) (w1 := w2) rfl e3
    have c4 := mCall_eq (Fn := F__law_next) (r := maQ (mVar 1) (maD (mL (eK (.int 61))) maNil)) (ρ := RL SC h OR (tbD A) (tbD B) (tbD C) (tbD (wdT Hf cs ++ [(c, .int d1)])) (us.map encU) (.val (.int c)) s9 s10 s11 s12 s13 s14 s15 s16 s17 s18) (w := w3) (args := [.r h, .d (.int 61)]) (w1 := w3) rfl e4
    have c5 := mCall_eq (Fn := F__law_next) (r := maQ (mVar 1) (maD (mL (eK (.int 3))) maNil)) (ρ := RL SC h OR (tbD A) (tbD B) (tbD C) (tbD (wdT Hf cs ++ [(c, .int d1)])) (us.map encU) (.val (.int c)) s9 s10 s11 s12 s13 s14 s15 s16 s17 s18) (w := w4) (args := [.r h, .d (.int 3)]) (w1 := w4) rfl e5
    have v4 : mOp oIx (mLst (maD (mL (eK (.int 0))) (maD (mCall F__law_next (maQ (mVar 1) (maD (mL (eK (.int 20))) maNil))) (maD (mCall F__law_next (maQ (mVar 1) (maD (mL (eK (.int 61))) maNil))) maNil)))) (mCall F__law_next (maQ (mVar 1) (maD (mL (eK (.int 3))) maNil))) (RL SC h OR (tbD A) (tbD B) (tbD C) (tbD (wdT Hf cs ++ [(c, .int d1)])) (us.map encU) (.val (.int c)) s9 s10 s11 s12 s13 s14 s15 s16 s17 s18) w2 = some (.int n, w5) := by
      clear g1 c1 ct c2
      unfold RL at *
      generalize tbD A = TA at *
      generalize tbD B = TB at *
      generalize tbD C = TC at *
      generalize tbD (wdT Hf cs ++ [(c, .int d1)]) = TD at *
      generalize us.map encU = UU at *
      push_cast [mLst_r, c3, c4, c5, en, le3]
    have p4 := dPut_new (.int n) nB (by omega)
    have g4 := mDPutO_eq (i := 4) (ρ := RL SC h OR (tbD A) (tbD B) (tbD C) (tbD (wdT Hf cs ++ [(c, .int d1)])) (us.map encU) (.val (.int c)) s9 s10 s11 s12 s13 s14 s15 s16 s17 s18) (fk := mL (eV 8)) (k := .int c) (w2 := w5) rfl v4 rfl p4
    have hB1 : oDGet (tbD (B ++ [(c, .int n)])) (.int c) = some (.int n) := oDGet_T (tg_new nB)
    have wD : wdT (upd Hf c d1) (cs ++ [c]) = wdT Hf cs ++ [(c, .int d1)] := wdT_upd hc
    have hU2 : (cs ++ [c]).flatMap (chU (upd tx c none) (upd W c n) (upd sc c 0)) = us ++ [⟨2, c, 0, 0, n, 0⟩] := by rw [← hU]; exact chU_upd hc none n 0
    have lt : (us.map encU).length < sizeLine := by rw [List.length_map, sizeLine_eq]; omega
    refine ⟨A, B ++ [(c, .int n)], C, upd tx c none, upd W c n, upd sc c 0, upd Hf c d1, w5, s9, ?_, K.box hc n, s5, t1.trans (t2.trans (t3.trans (t4.trans t5)))⟩
    rw [hU2, wD]
    refine mSqN g1 ((mIf_f ct).trans ?_)
    refine mSqN g4 (mS_nx ?_)
    show sMut _ _ _ (RL SC h OR (tbD A) (tbD (B ++ [(c, .int n)])) (tbD C) (tbD (wdT Hf cs ++ [(c, .int d1)])) (us.map encU) (.val (.int c)) s9 s10 s11 s12 s13 s14 s15 s16 s17 s18) = _
    have eu : (us ++ [(⟨2, c, 0, 0, n, 0⟩ : Un)]).map encU = us.map encU ++ [.tuple [.str "box", .int c, .int 0, .int 0, .int n, .int 0]] := by rw [List.map_append]; rfl
    rw [eu]
    clear g1 c1 ct c2 c3 c4 c5 v4 g4 p4
    unfold RL
    generalize tbD A = TA at *
    generalize tbD (B ++ [(c, .int n)]) = TB at *
    generalize tbD C = TC at *
    generalize tbD (wdT Hf cs ++ [(c, .int d1)]) = TD at *
    generalize us.map encU = UU at *
    push_cast only [hB1, lt, le6, fApp_r]
end


/-! ### what the lines hold -/
theorem wordU_c (c : Int) (O : List Int) : ∀ (ps : List (Nat × Nat)) (la : Option Nat), ∀ u ∈ wordU c O la ps, u.c = c
  | [], la, u, h => by
    have : wordU c O la [] = [] := rfl
    rw [this] at h; cases h
  | p :: ps, la, u, h => by
    have : wordU c O la (p :: ps) = ⟨0, c, (p.1 : Nat), (p.2 : Nat), O.getD p.2 0 - O.getD p.1 0, spU O la p.1⟩ :: wordU c O (some p.2) ps := rfl
    rw [this] at h
    rcases List.mem_cons.mp h with h | h
    · rw [h]
    · exact wordU_c c O ps _ u h
theorem rowU_c (c : Int) (T : List Nat) (O : List Int) : ∀ (rs : List (Nat × Nat)) (be : Option Nat), ∀ u ∈ rowU c T O be rs, u.c = c
  | [], be, u, h => by
    have : rowU c T O be [] = [] := rfl
    rw [this] at h; cases h
  | r :: rs, be, u, h => by
    have : rowU c T O be (r :: rs) = brkU c be ++ (wordU c O none (wds T r.1 r.2) ++ rowU c T O (some r.1) rs) := rfl
    rw [this] at h
    rcases List.mem_append.mp h with h | h
    · cases be with
      | none => cases h
      | some b => rw [List.mem_singleton.mp h]
    · rcases List.mem_append.mp h with h | h
      · exact wordU_c c O _ _ u h
      · exact rowU_c c T O rs _ u h
theorem chU_c {tx : Int → Option (List Nat)} {W sc : Int → Int} (c : Int) : ∀ u ∈ chU tx W sc c, u.c = c := by
  intro u hu
  unfold chU at hu
  cases h : tx c with
  | none => rw [h] at hu; rw [List.mem_singleton.mp hu]
  | some T => rw [h] at hu; exact rowU_c c T _ _ _ u hu
structure PI (S : Int → Prop) (n : Nat) (s : List (List Pc) × List Pc) : Prop where
  a : ∀ l ∈ s.1, l ≠ [] ∧ l.length ≤ n ∧ ∀ p ∈ l, S p.c
  b : s.2.length ≤ n ∧ ∀ p ∈ s.2, S p.c
  c : s.1.length ≤ n
theorem PI.step {S : Int → Prop} {n : Nat} {s : List (List Pc) × List Pc} (I : PI S n s) (rm : Option Int) (gap : Int) {u : Un} (hu : S u.c) : PI S (n + 1) (stpP rm gap s u) := by
  obtain ⟨a, ⟨b1, b2⟩, c⟩ := I
  have a' : ∀ l ∈ s.1, l ≠ [] ∧ l.length ≤ n + 1 ∧ ∀ p ∈ l, S p.c := fun l hl => ⟨(a l hl).1, Nat.le_succ_of_le (a l hl).2.1, (a l hl).2.2⟩
  have one : ∀ {a b l w : Int}, ∀ p ∈ [(⟨u.c, a, b, l, w⟩ : Pc)], S p.c := fun p hp => by rw [List.mem_singleton.mp hp]; exact hu
  unfold stpP
  split
  · refine ⟨fun l hl => ?_, ⟨Nat.zero_le _, fun p hp => by cases hp⟩, by rw [List.length_append, List.length_singleton]; omega⟩
    rcases List.mem_append.mp hl with hl | hl
    · exact a' l hl
    · rw [List.mem_singleton.mp hl]
      split
      · exact ⟨List.cons_ne_nil _ _, by rw [List.length_singleton]; omega, one⟩
      · rename_i h2
        exact ⟨h2, Nat.le_succ_of_le b1, b2⟩
  · split
    · rename_i hc
      refine ⟨fun l hl => ?_, ⟨by rw [List.length_singleton]; omega, one⟩, by rw [List.length_append, List.length_singleton]; omega⟩
      rcases List.mem_append.mp hl with hl | hl
      · exact a' l hl
      · rw [List.mem_singleton.mp hl]
        refine ⟨fun z => ?_, Nat.le_succ_of_le b1, b2⟩
        rw [z] at hc
        exact Bool.false_ne_true hc
    · refine ⟨a', ?_, Nat.le_succ_of_le c⟩
      unfold addP
      cases s.2.getLast? with
      | none => exact ⟨by rw [List.length_singleton]; omega, one⟩
      | some p =>
        simp only []
        split
        · refine ⟨by rw [List.length_append, List.length_dropLast, List.length_singleton]; omega, fun q hq => ?_⟩
          rcases List.mem_append.mp hq with hq | hq
          · exact b2 q (List.dropLast_subset _ hq)
          · exact one q hq
        · refine ⟨by rw [List.length_append, List.length_singleton]; omega, fun q hq => ?_⟩
          rcases List.mem_append.mp hq with hq | hq
          · exact b2 q hq
          · exact one q hq
theorem PI.all {S : Int → Prop} (rm : Option Int) (gap : Int) : ∀ (us : List Un) {n : Nat} {s : List (List Pc) × List Pc}, PI S n s → (∀ u ∈ us, S u.c) → PI S (n + us.length) (us.foldl (stpP rm gap) s)
  | [], n, s, I, _ => I
  | u :: us, n, s, I, h => by
    have := PI.all rm gap us (I.step rm gap (h u List.mem_cons_self)) fun v hv => h v (List.mem_cons_of_mem _ hv)
    rw [List.foldl_cons, List.length_cons, show n + (us.length + 1) = n + 1 + us.length by omega]
    exact this
theorem set_all {S : Int → Prop} (rm : Option Int) (gap : Int) (us : List Un) (h : ∀ u ∈ us, S u.c) : (∀ l ∈ setP rm gap us, l ≠ [] ∧ l.length ≤ us.length ∧ ∀ p ∈ l, S p.c) ∧ (setP rm gap us).length ≤ us.length + 1 := by
  have I := PI.all rm gap us (S := S) (n := 0) (s := ([], [])) ⟨fun l hl => (by cases hl), ⟨Nat.le_refl _, fun p hp => (by cases hp)⟩, Nat.le_refl _⟩ h
  rw [Nat.zero_add] at I
  unfold setP
  split
  · exact ⟨I.a, Nat.le_succ_of_le I.c⟩
  · rename_i hn
    refine ⟨fun l hl => ?_, by rw [List.length_append, List.length_singleton]; have := I.c; omega⟩
    rcases List.mem_append.mp hl with hl | hl
    · exact I.a l hl
    · rw [List.mem_singleton.mp hl]; exact ⟨hn, I.b.1, I.b.2⟩
theorem cleanA_mem (n : Nat) : ∀ l : List PyData, (∀ d ∈ l, clean n d = true) → cleanA n l = true
  | [], _ => by unfold cleanA; rfl
  | d :: l, h => by
    unfold cleanA
    rw [h d List.mem_cons_self, cleanA_mem n l fun e he => h e (List.mem_cons_of_mem _ he)]; rfl
theorem clean_pl (Hf : Int → Int) (R : Int) (k : Nat) (ls : List (List Pc)) : clean 9 (plV Hf R k ls) = true := by
  have go : ∀ (ls : List (List Pc)) (s : List PyData × Int × Int), (∀ d ∈ s.1, clean 7 d = true) → ∀ d ∈ (ls.foldl (plS Hf R k) s).1, clean 7 d = true := by
    intro ls
    induction ls with
    | nil => intro s h; exact h
    | cons l ls ih =>
      intro s h
      rw [List.foldl_cons]
      refine ih _ fun d hd => ?_
      rcases List.mem_append.mp hd with hd | hd
      · exact h d hd
      · obtain ⟨p, _, rfl⟩ := List.mem_map.mp hd
        rfl
  have e := cleanA_mem 7 _ (go ls ([], 0, 0) fun d hd => by cases hd)
  unfold plV
  generalize (ls.foldl (plS Hf R k) ([], 0, 0)).1 = F at *
  show cleanA 8 [_, _, PyData.list F] = true
  have : clean 8 (PyData.list F) = true := e
  show (true && (true && (clean 8 (PyData.list F) && true))) = true
  rw [this]; rfl
section
variable {cs : List Int} {A B C : Tbl} {tx : Int → Option (List Nat)} {W sc Hf : Int → Int}
theorem KI.lines (K : KI cs A B C tx W sc) (h6 : cs.length ≤ 6) (rm : Option Int) (gap : Int) : (∀ l ∈ setP rm gap (cs.flatMap (chU tx W sc)), l ≠ [] ∧ l.length ≤ 4096 ∧ ∀ p ∈ l, oDGet (tbD (wdT Hf cs)) (.int p.c) = some (.int (Hf p.c))) ∧ (setP rm gap (cs.flatMap (chU tx W sc))).length ≤ 4000 := by
  have lU := K.chl
  obtain ⟨a, b⟩ := set_all (S := fun c => c ∈ cs) rm gap (cs.flatMap (chU tx W sc)) fun u hu => by
    obtain ⟨c, hc, hu⟩ := List.mem_flatMap.mp hu
    rw [chU_c c u hu]; exact hc
  refine ⟨fun l hl => ?_, by omega⟩
  obtain ⟨h1, h2, h3⟩ := a l hl
  exact ⟨h1, by omega, fun p hp => oDGet_T (wdT_get (h3 p hp))⟩
theorem KI.cst (K : KI cs A B C tx W sc) : (cs.map (cst tx)).sum ≤ cs.length * 133 := by
  have : ∀ l : List Int, (∀ x ∈ l, x ∈ cs) → (l.map (Lw.cst tx)).sum ≤ l.length * 133 := by
    intro l
    induction l with
    | nil => intro _; exact Nat.le_refl _
    | cons x l ih =>
      intro h
      rw [List.map_cons, List.sum_cons, List.length_cons]
      have i := ih fun y hy => h y (List.mem_cons_of_mem _ hy)
      have : Lw.cst tx x ≤ 133 := by
        unfold Lw.cst
        cases hx : tx x with
        | none => exact Nat.le_of_ble_eq_true rfl
        | some T =>
          obtain ⟨_, _, _, lT⟩ := K.t x (h x List.mem_cons_self) T hx
          show T.length + 1 ≤ 133
          omega
      omega
  exact this cs fun x hx => hx
end


theorem lcL_ls {W : Wd} {ρ : Rho} (hρ : ∀ j, ∃ ρ1, gvName 18 (.r j) ρ = some ρ1 ∧ mVar 18 ρ1 W = some (.r j, W)) : ∀ {js : List Nat} {ls : List (List Pc)}, LsW W js ls → (∀ l ∈ ls, l.length ≤ 4096) → LcL (gvName 18) (mLB bYes) (mFB F_line_width (maQ (mVar 18) maNil)) W ρ (js.map .r) (ls.map fun l => .int (lwP l))
  | [], [], _, _ => True.intro
  | j :: js, l :: ls, h, hl => by
    obtain ⟨ρ1, e1, e2⟩ := hρ j
    have ll := hl l List.mem_cons_self
    exact ⟨⟨ρ1, e1, rfl, mFBL (j := j) e2 (rd_li h.1) (lw_eq l (by omega))⟩, lcL_ls hρ h.2 fun k hk => hl k (List.mem_cons_of_mem _ hk)⟩
  | [], _ :: _, h, _ => h.elim
  | _ :: _, [], h, _ => h.elim
theorem wide_ex (SC : PyData) (h : Nat) (OR A B C D : PyData) (us : List PyData) (s8 s9 s10 s11 s13 s14 s15 s16 s18 : Slot) (rm : Option Int) (w : Wd) : ∃ R : Int, mIf (mLB (bT (eOp oNotN (eB 12) (eK (.none))))) (mS (sSet 17 (eV 12))) mNext (RL SC h OR A B C D us s8 s9 s10 s11 (.val (encRm rm)) s13 s14 s15 s16 (.val (.int 150)) s18) w = some (.nx (RL SC h OR A B C D us s8 s9 s10 s11 (.val (encRm rm)) s13 s14 s15 s16 (.val (.int R)) s18), w) := by
  cases rm with
  | none =>
    have z : oNotN .none .none = some (.bool false) := rfl
    exact ⟨150, (mIf_f (by unfold RL encRm; push_cast [z])).trans rfl⟩
  | some r =>
    have z : oNotN (.int r) .none = some (.bool true) := rfl
    exact ⟨r, (mIf_t (by unfold RL encRm; push_cast [z])).trans (mS_nx (by unfold RL encRm; push_cast only []))⟩
section
variable {cs : List Int} {A B C : Tbl} {tx : Int → Option (List Nat)} {W sc Hf : Int → Int} {h0 h : Nat}
theorem rnd_ex (hne : h0 ≠ h) {w : Wd} (s : StA w h0 h) (K : KI cs A B C tx W sc) (h6 : cs.length ≤ 6) (nd : cs.Nodup) (SC : PyData) (gap : Int) (s8 s9 s11 s12 s13 s14 s15 s16 s17 s18 : Slot) :
    ∃ t9 t12 t13 t14 t15 t16 t17 w', L_law_2 (RL SC h (.list (cs.map .int)) (tbD A) (tbD B) (tbD C) (tbD (wdT Hf cs)) ((cs.flatMap (chU tx W sc)).map encU) s8 s9 (.val (.int gap)) s11 s12 s13 s14 s15 s16 s17 s18) w = some (.nx (RL SC h (.list (cs.map .int)) (tbD A) (tbD B) (tbD C) (tbD (wdT Hf cs)) ((cs.flatMap (chU tx W sc)).map encU) s8 t9 (.val (.int gap)) s11 t12 t13 t14 t15 t16 t17 s18), w') ∧ StA w' h0 h := by
  have lU := K.chl
  have hL := fun rm => llines_eq (gap := gap) rm cs nd (fun c hc => K.dok hc) (by have := K.cst; omega)
  have hI := fun rm => K.lines (Hf := Hf) h6 rm gap
  have hdc := dcp_T (wdT Hf cs)
  have hde : oDEq true (tbD (wdT Hf cs)) (tbD (wdT Hf cs)) = some (.bool false) := eq_W Hf nd true
  have hset := fun w rm => setw_ex w (cs.flatMap (chU tx W sc)) rm gap (by omega)
  have cU := clean_units (cs.flatMap (chU tx W sc))
  generalize cs.flatMap (chU tx W sc) = us at *
  obtain ⟨d1, w1, e1, a1, b1, s1, t1⟩ := next_ex hne s 40 (by decide) (by decide)
  obtain ⟨d2, w2, e2, a2, b2, s2, t2⟩ := next_ex hne s1 121 (by decide) (by decide)
  obtain ⟨d3, w3, e3, a3, b3, s3, t3⟩ := next_ex hne s2 1001 (by decide) (by decide)
  obtain ⟨d4, w4, e4, a4, b4, s4, t4⟩ := next_ex hne s3 5 (by decide) (by decide)
  obtain ⟨v, hv, ev⟩ := pickD [.none, .int 0, .int d1, .int d2, .int d3] a4 (by show d4 < 5; omega)
  obtain ⟨rm, rfl⟩ : ∃ rm, v = encRm rm := by
    simp only [List.mem_cons, List.not_mem_nil, or_false] at hv
    rcases hv with rfl | rfl | rfl | rfl | rfl
    · exact ⟨none, rfl⟩
    · exact ⟨some 0, rfl⟩
    · exact ⟨some d1, rfl⟩
    · exact ⟨some d2, rfl⟩
    · exact ⟨some d3, rfl⟩
  have hl := hL rm
  obtain ⟨i1, i2⟩ := hI rm
  have hset := fun w => hset w rm
  have hP := fun (R : Int) k => lplc_eq (HD := tbD (wdT Hf cs)) (Hf := Hf) (R := R) k i1 i2
  have hPw := fun (R : Int) (w : Wd) (k hh : Nat) (js : List Nat) (hw : w[hh]? = some (.lst (js.map .r))) (L : LsW w js _) => plc_ex (HD := tbD (wdT Hf cs)) (Hf := Hf) (R := R) w k hh hw L i1 i2
  clear hL hI
  generalize setP rm gap us = LS at *
  obtain ⟨Ww, js, es, F, hh4, LW, jg⟩ := hset w4
  have lt0 : h0 < w4.length := by obtain ⟨_, _, _, x, _⟩ := s4; exact (List.getElem?_eq_some_iff.mp x).1
  have lth : h < w4.length := by obtain ⟨_, _, _, _, x, _⟩ := s4; exact (List.getElem?_eq_some_iff.mp x).1
  have sW : StA Ww h0 h := s4.frm F (by simp) (by simp)
  obtain ⟨d5, w5, e5, a5, b5, s5, t5⟩ := next_ex hne sW 4 (by decide) (by decide)
  have F5 := t5.frm
  have hh5 : w5[w4.length]? = some (.lst (js.map .r)) := F5.get hh4 (by simp; omega)
  have LW5 : LsW w5 js LS := LW.frm F5 fun j hj => by have := jg j hj; simp; omega
  have lenj := LW.len
  have cL := clean_lines LS
  have shL := clean_shaped (by decide) cL
  have eqL : PyData.eqv (.list (LS.map encL)) (.list (LS.map encL)) = true := (eqv_iff 9 _ _ cL cL).mpr rfl
  have neU := oNe_self cU
  have neW := oNe_self (clean_is (LS.map lwP))
  have nePl := fun R k => oNe_self (clean_pl Hf R k LS)
  have le0 : 0 ≤ sizeLine := Nat.zero_le _
  have le4 : 4 ≤ sizeLine := size_le (by decide)
  have le5 : 5 ≤ sizeLine := size_le (by decide)
  have lw0 : F_line_width [.list []] = some (.int 0) := lw_eq [] (by simp)
  have li0 := is_integer_i 0
  have lUU : (us.map encU).length = us.length := List.length_map _
  generalize tbD (wdT Hf cs) = TD at *
  generalize tbD A = TA at *
  generalize tbD B = TB at *
  generalize tbD C = TC at *
  generalize PyData.list (cs.map .int) = OR at *
  generalize us.map encU = UU at *
  -- the room
  have g1 : mSet 12 (mOp oIx (mLst (maD (mL (eK (.none))) (maD (mL (eK (.int 0))) (maD (mCall F__law_next (maQ (mVar 1) (maD (mL (eK (.int 40))) maNil))) (maD (mCall F__law_next (maQ (mVar 1) (maD (mL (eK (.int 121))) maNil))) (maD (mCall F__law_next (maQ (mVar 1) (maD (mL (eK (.int 1001))) maNil))) maNil)))))) (mCall F__law_next (maQ (mVar 1) (maD (mL (eK (.int 5))) maNil)))) (RL SC h OR TA TB TC TD UU s8 s9 (.val (.int gap)) s11 s12 s13 s14 s15 s16 s17 s18) w = some (.nx (RL SC h OR TA TB TC TD UU s8 s9 (.val (.int gap)) s11 (.val (encRm rm)) s13 s14 s15 s16 s17 s18), w4) := by
    have c1 := mCall_eq (Fn := F__law_next) (r := maQ (mVar 1) (maD (mL (eK (.int 40))) maNil)) (ρ := RL SC h OR TA TB TC TD UU s8 s9 (.val (.int gap)) s11 s12 s13 s14 s15 s16 s17 s18) (w := w) (args := [.r h, .d (.int 40)]) (w1 := w) rfl e1
    have c2 := mCall_eq (Fn := F__law_next) (r := maQ (mVar 1) (maD (mL (eK (.int 121))) maNil)) (ρ := RL SC h OR TA TB TC TD UU s8 s9 (.val (.int gap)) s11 s12 s13 s14 s15 s16 s17 s18) (w := w1) (args := [.r h, .d (.int 121)]) (w1 := w1) rfl e2
    have c3 := mCall_eq (Fn := F__law_next) (r := maQ (mVar 1) (maD (mL (eK (.int 1001))) maNil)) (ρ := RL SC h OR TA TB TC TD UU s8 s9 (.val (.int gap)) s11 s12 s13 s14 s15 s16 s17 s18) (w := w2) (args := [.r h, .d (.int 1001)]) (w1 := w2) rfl e3
    have c4 := mCall_eq (Fn := F__law_next) (r := maQ (mVar 1) (maD (mL (eK (.int 5))) maNil)) (ρ := RL SC h OR TA TB TC TD UU s8 s9 (.val (.int gap)) s11 s12 s13 s14 s15 s16 s17 s18) (w := w3) (args := [.r h, .d (.int 5)]) (w1 := w3) rfl e4
    refine mSet_eq (d := encRm rm) (w1 := w4) ?_ (by show 12 < 19; decide)
    clear hset hP hPw es hl
    unfold RL at *
    generalize encRm rm = RM at *
    push_cast [mLst_r, c1, c2, c3, c4, ev, le5]
  have g2 := mS_nx (w := w4) (sSet_eq (k := 13) (ρ := RL SC h OR TA TB TC TD UU s8 s9 (.val (.int gap)) s11 (.val (encRm rm)) s13 s14 s15 s16 s17 s18) (e := eCall F__law_lines (aCons (eB 2) (aCons (eB 3) (aCons (eB 4) (aCons (eB 5) (aCons (eB 12) (aCons (eB 10) aNil))))))) (d := .list (LS.map encL)) (by
    clear g1 hset hP hPw es
    unfold RL
    generalize encRm rm = RM at *
    generalize PyData.list (LS.map encL) = LL at *
    push_cast only [hl]) (by show 13 < 19; decide))
  have g3 := mS_nx (w := w4) (sSet_eq (k := 14) (ρ := RL SC h OR TA TB TC TD UU s8 s9 (.val (.int gap)) s11 (.val (encRm rm)) (.val (.list (LS.map encL))) s14 s15 s16 s17 s18) (e := eCall cList (aCons (eB 7) aNil)) (d := .list UU) (by
    clear g1 g2 hset hP hPw es
    unfold RL
    generalize encRm rm = RM at *
    generalize PyData.list (LS.map encL) = LL at *
    push_cast only []) (by show 14 < 19; decide))
  have g4 : mAny 15 (mCallQ F_set_lines (maD (mL (eB 14)) (maD (mL (eB 12)) (maD (mL (eV 10)) maNil)))) (RL SC h OR TA TB TC TD UU s8 s9 (.val (.int gap)) s11 (.val (encRm rm)) (.val (.list (LS.map encL))) (.val (.list UU)) s15 s16 s17 s18) w4 = some (.nx (RL SC h OR TA TB TC TD UU s8 s9 (.val (.int gap)) s11 (.val (encRm rm)) (.val (.list (LS.map encL))) (.val (.list UU)) (.st w4.length) s16 s17 s18), Ww) := by
    have q : mCallQ F_set_lines (maD (mL (eB 14)) (maD (mL (eB 12)) (maD (mL (eV 10)) maNil))) (RL SC h OR TA TB TC TD UU s8 s9 (.val (.int gap)) s11 (.val (encRm rm)) (.val (.list (LS.map encL))) (.val (.list UU)) s15 s16 s17 s18) w4 = some (.r w4.length, Ww) := by
      unfold mCallQ
      have r : maD (mL (eB 14)) (maD (mL (eB 12)) (maD (mL (eV 10)) maNil)) (RL SC h OR TA TB TC TD UU s8 s9 (.val (.int gap)) s11 (.val (encRm rm)) (.val (.list (LS.map encL))) (.val (.list UU)) s15 s16 s17 s18) w4 = some ([.d (.list UU), .d (encRm rm), .d (.int gap)], w4) := rfl
      rw [r]
      exact es
    rw [mAny_r, q]; rfl
  -- the lines
  have qW : ∀ (W : Wd) (s9 s16 s17 : Slot), W[w4.length]? = some (.lst (js.map .r)) → LsW W js LS → mEqN true (mVar 15) (mL (eB 13)) (RL SC h OR TA TB TC TD UU s8 s9 (.val (.int gap)) s11 (.val (encRm rm)) (.val (.list (LS.map encL))) (.val (.list UU)) (.st w4.length) s16 s17 s18) W = some (false, W) := fun W s9 s16 s17 hw hW => by
    rw [mEqN_eq (x := .r w4.length) (y := .list (LS.map encL)) (w1 := W) (w2 := W) rfl rfl (deep_all hw hW) shL shL, eqL]; rfl
  have g5 : mOrB (mNot (mV (mIsL "list" (mR (mVar 15))))) (mOrB (mEqN true (mVar 15) (mL (eB 13))) (mLB (bT (eOp oNe (eB 14) (eB 7))))) (RL SC h OR TA TB TC TD UU s8 s9 (.val (.int gap)) s11 (.val (encRm rm)) (.val (.list (LS.map encL))) (.val (.list UU)) (.st w4.length) s16 s17 s18) Ww = some (false, Ww) := by
    have i5 : mIsL "list" (mR (mVar 15)) (RL SC h OR TA TB TC TD UU s8 s9 (.val (.int gap)) s11 (.val (encRm rm)) (.val (.list (LS.map encL))) (.val (.list UU)) (.st w4.length) s16 s17 s18) Ww = some (.bool true, Ww) := mIsL_eq (T := "list") (w1 := Ww) rfl hh4
    have q5 := qW Ww s9 s16 s17 hh4 LW
    clear g1 g2 g3 g4 hset hP hPw es qW
    unfold RL at *
    generalize encRm rm = RM at *
    generalize PyData.list (LS.map encL) = LL at *
    generalize PyData.list UU = UL at *
    push_cast [i5, q5, neU]
  have g6 : mOrB (mT (mOp oNe (mLcL (mR (mVar 15)) (gvName 18) (mLB bYes) (mFB F_line_width (maQ (mVar 18) maNil)) [18]) (mL (eLc (sSeq (eB 13)) (gV 18) bYes (eOp oAdd (eOp oIx (eOp oIx (eB 18) (eUn oNeg (eK (.int 1)))) (eK (.int 3))) (eOp oIx (eOp oIx (eB 18) (eUn oNeg (eK (.int 1)))) (eK (.int 4)))) [18])))) (mLB (bT (eOp oNe (eCall F_line_width (aCons (eLst aNil) aNil)) (eK (.int 0))))) (RL SC h OR TA TB TC TD UU s8 s9 (.val (.int gap)) s11 (.val (encRm rm)) (.val (.list (LS.map encL))) (.val (.list UU)) (.st w4.length) s16 s17 s18) Ww = some (false, Ww) := by
    have lc : mLcL (mR (mVar 15)) (gvName 18) (mLB bYes) (mFB F_line_width (maQ (mVar 18) maNil)) [18] (RL SC h OR TA TB TC TD UU s8 s9 (.val (.int gap)) s11 (.val (encRm rm)) (.val (.list (LS.map encL))) (.val (.list UU)) (.st w4.length) s16 s17 s18) Ww = some (.list ((LS.map lwP).map .int), Ww) := by
      rw [List.map_map]
      exact mLcL_st (ys := LS.map fun l => .int (lwP l)) rfl hh4 (lcL_ls (fun j => ⟨_, rfl, rfl⟩) LW fun l hl => (i1 l hl).2.1) (by rw [List.length_map, sizeLine_eq]; omega)
    have el : eLc (sSeq (eB 13)) (gV 18) bYes (eOp oAdd (eOp oIx (eOp oIx (eB 18) (eUn oNeg (eK (.int 1)))) (eK (.int 3))) (eOp oIx (eOp oIx (eB 18) (eUn oNeg (eK (.int 1)))) (eK (.int 4)))) [18] (RL SC h OR TA TB TC TD UU s8 s9 (.val (.int gap)) s11 (.val (encRm rm)) (.val (.list (LS.map encL))) (.val (.list UU)) (.st w4.length) s16 s17 s18) = some (.list ((LS.map lwP).map .int)) := by
      rw [List.map_map]
      refine eLc_eq (ds := LS.map encL) rfl (lcGo_map encL (fun l => .int (lwP l)) LS fun l hl => ⟨_, rfl, rfl, ?_⟩) (by rw [List.length_map]; omega)
      obtain ⟨X, p, hX⟩ : ∃ X p, l = X ++ [p] := by
        rcases List.eq_nil_or_concat l with h | ⟨X, p, h⟩
        · exact absurd h (i1 l hl).1
        · exact ⟨X, p, by rw [h, List.concat_eq_append]⟩
      have lwl : lwP l = p.l + p.w := by rw [hX]; unfold lwP; rw [List.getLast?_concat]
      have ixl : oIx (encL l) (.int (-1)) = some (encPc p) := by
        rw [hX]
        unfold encL
        rw [List.map_append]
        exact atI_last (X.map encPc) (encPc p)
      have x3 : oIx (encPc p) (.int 3) = some (.int p.l) := rfl
      have x4 : oIx (encPc p) (.int 4) = some (.int p.w) := rfl
      have n1 : oNeg (.int 1) = some (.int (-1)) := rfl
      rw [lwl]
      show eOp oAdd (eOp oIx (eOp oIx (eB 18) (eUn oNeg (eK (.int 1)))) (eK (.int 3))) (eOp oIx (eOp oIx (eB 18) (eUn oNeg (eK (.int 1)))) (eK (.int 4))) [.scr SC, .st h, .val OR, .own TA, .own TB, .own TC, .own TD, .own (.list UU), s8, s9, .val (.int gap), s11, .val (encRm rm), .val (.list (LS.map encL)), .val (.list UU), .st w4.length, s16, s17, .val (encL l)] = _
      clear g1 g2 g3 g4 hset hP hPw es qW g5 lc
      generalize encL l = EL at *
      generalize encPc p = EP at *
      generalize encRm rm = RM at *
      generalize LS.map encL = LL at *
      push_cast only [n1, ixl, x3, x4]
    clear g1 g2 g3 g4 hset hP hPw es qW g5
    generalize hEL : eLc (sSeq (eB 13)) (gV 18) bYes (eOp oAdd (eOp oIx (eOp oIx (eB 18) (eUn oNeg (eK (.int 1)))) (eK (.int 3))) (eOp oIx (eOp oIx (eB 18) (eUn oNeg (eK (.int 1)))) (eK (.int 4)))) [18] = EE at *
    generalize hML : mLcL (mR (mVar 15)) (gvName 18) (mLB bYes) (mFB F_line_width (maQ (mVar 18) maNil)) [18] = MM at *
    clear hEL hML
    unfold RL at *
    generalize encRm rm = RM at *
    generalize PyData.list (LS.map encL) = LL at *
    generalize PyData.list ((LS.map lwP).map .int) = WL at *
    push_cast [lc, el, neW, lw0, le0]
  obtain ⟨k, e7⟩ : ∃ k, oIx (.list [.str "left", .str "center", .str "right", .str "full"]) (.int d5) = some (.str (alS k)) := by
    have : d5 = 0 ∨ d5 = 1 ∨ d5 = 2 ∨ d5 = 3 := by omega
    rcases this with rfl | rfl | rfl | rfl
    · exact ⟨0, rfl⟩
    · exact ⟨1, rfl⟩
    · exact ⟨2, rfl⟩
    · exact ⟨3, rfl⟩
  have g7 : mSet 16 (mOp oIx (mL (eLst (aCons (eK (.str "left")) (aCons (eK (.str "center")) (aCons (eK (.str "right")) (aCons (eK (.str "full")) aNil)))))) (mCall F__law_next (maQ (mVar 1) (maD (mL (eK (.int 4))) maNil)))) (RL SC h OR TA TB TC TD UU s8 s9 (.val (.int gap)) s11 (.val (encRm rm)) (.val (.list (LS.map encL))) (.val (.list UU)) (.st w4.length) s16 s17 s18) Ww = some (.nx (RL SC h OR TA TB TC TD UU s8 s9 (.val (.int gap)) s11 (.val (encRm rm)) (.val (.list (LS.map encL))) (.val (.list UU)) (.st w4.length) (.val (.str (alS k))) s17 s18), w5) := by
    have c7 := mCall_eq (Fn := F__law_next) (r := maQ (mVar 1) (maD (mL (eK (.int 4))) maNil)) (ρ := RL SC h OR TA TB TC TD UU s8 s9 (.val (.int gap)) s11 (.val (encRm rm)) (.val (.list (LS.map encL))) (.val (.list UU)) (.st w4.length) s16 s17 s18) (w := Ww) (args := [.r h, .d (.int 4)]) (w1 := Ww) rfl e5
    refine mSet_eq (d := .str (alS k)) (w1 := w5) ?_ (by show 16 < 19; decide)
    clear g1 g2 g3 g4 hset hP hPw es qW g5 g6
    unfold RL at *
    generalize alS k = AL at *
    generalize encRm rm = RM at *
    generalize PyData.list (LS.map encL) = LL at *
    push_cast [c7, e7, le4]
  have g8 := mS_nx (w := w5) (sSet_eq (k := 17) (ρ := RL SC h OR TA TB TC TD UU s8 s9 (.val (.int gap)) s11 (.val (encRm rm)) (.val (.list (LS.map encL))) (.val (.list UU)) (.st w4.length) (.val (.str (alS k))) s17 s18) (e := eK (.int 150)) (d := .int 150) rfl (by show 17 < 19; decide))
  obtain ⟨R, g9⟩ := wide_ex SC h OR TA TB TC TD UU s8 s9 (.val (.int gap)) s11 (.val (.list (LS.map encL))) (.val (.list UU)) (.st w4.length) (.val (.str (alS k))) s18 rm w5
  have g10 := mS_nx (w := w5) (sOwn_eq (k := 9) (ρ := RL SC h OR TA TB TC TD UU s8 s9 (.val (.int gap)) s11 (.val (encRm rm)) (.val (.list (LS.map encL))) (.val (.list UU)) (.st w4.length) (.val (.str (alS k))) (.val (.int R)) s18) (e := eDCp (eB 6)) (d := TD) (by
    show (some TD).bind dcp = _
    exact hdc) (by show 9 < 19; decide))
  have g11 : mOrB (mT (mOp oNe (mCall F_place_pieces (maQ (mVar 15) (maD (mL (eB 9)) (maD (mL (eB 17)) (maD (mL (eB 16)) maNil))))) (mL (eCall F__law_placed (aCons (eB 13) (aCons (eB 6) (aCons (eB 17) (aCons (eB 16) aNil)))))))) (mOrB (mEqN true (mVar 15) (mL (eB 13))) (mLB (bT (eOp (oDEq true) (eB 9) (eB 6))))) (RL SC h OR TA TB TC TD UU s8 (.own TD) (.val (.int gap)) s11 (.val (encRm rm)) (.val (.list (LS.map encL))) (.val (.list UU)) (.st w4.length) (.val (.str (alS k))) (.val (.int R)) s18) w5 = some (false, w5) := by
    have cp := mCall_eq (Fn := F_place_pieces) (r := maQ (mVar 15) (maD (mL (eB 9)) (maD (mL (eB 17)) (maD (mL (eB 16)) maNil)))) (ρ := RL SC h OR TA TB TC TD UU s8 (.own TD) (.val (.int gap)) s11 (.val (encRm rm)) (.val (.list (LS.map encL))) (.val (.list UU)) (.st w4.length) (.val (.str (alS k))) (.val (.int R)) s18) (w := w5) (args := [.r w4.length, .d TD, .d (.int R), .d (.str (alS k))]) (w1 := w5) rfl (hPw R w5 k w4.length js hh5 LW5)
    have hp := hP R k
    have q11 := qW w5 (.own TD) (.val (.str (alS k))) (.val (.int R)) hh5 LW5
    have ne := nePl R k
    clear g1 g2 g3 g4 hset hP hPw es qW g5 g6 g7 g8 g9 g10 nePl
    unfold RL at *
    generalize alS k = AL at *
    generalize encRm rm = RM at *
    generalize PyData.list (LS.map encL) = LL at *
    generalize plV Hf R k LS = PV at *
    push_cast [cp, hp, ne, q11, hde]
  have g12 : mLB (bNot (bV (eCall F__law_is_integer (aCons (eCall F_line_width (aCons (eLst aNil) aNil)) aNil)))) (RL SC h OR TA TB TC TD UU s8 (.own TD) (.val (.int gap)) s11 (.val (encRm rm)) (.val (.list (LS.map encL))) (.val (.list UU)) (.st w4.length) (.val (.str (alS k))) (.val (.int R)) s18) w5 = some (false, w5) := by
    clear g1 g2 g3 g4 hset hP hPw es qW g5 g6 g7 g8 g9 g10 g11 nePl
    unfold RL
    generalize alS k = AL at *
    generalize encRm rm = RM at *
    generalize PyData.list (LS.map encL) = LL at *
    push_cast [lw0, li0, le0]
  -- the lines that were told are changed
  obtain ⟨w6, g13, hh6, s6, l6⟩ : ∃ w6, mIf (mT (mOp oGt (mLenL (mR (mVar 15))) (mL (eK (.int 0))))) (mExprQ (mMth lApp (mR (mIx (mR (mVar 15)) (mL (eK (.int 0))))) (maQ (mQ (mL (eTup (aCons (eK (.int 7)) (aCons (eK (.int 0)) (aCons (eK (.int 0)) (aCons (eK (.int 0)) (aCons (eK (.int 0)) aNil)))))))) maNil))) mNext (RL SC h OR TA TB TC TD UU s8 (.own TD) (.val (.int gap)) s11 (.val (encRm rm)) (.val (.list (LS.map encL))) (.val (.list UU)) (.st w4.length) (.val (.str (alS k))) (.val (.int R)) s18) w5 = some (.nx (RL SC h OR TA TB TC TD UU s8 (.own TD) (.val (.int gap)) s11 (.val (encRm rm)) (.val (.list (LS.map encL))) (.val (.list UU)) (.st w4.length) (.val (.str (alS k))) (.val (.int R)) s18), w6) ∧ w6[w4.length]? = some (.lst (js.map .r)) ∧ StA w6 h0 h ∧ w5.length ≤ w6.length := by
    have ml := mLenL_eq (fr := mR (mVar 15)) (ρ := RL SC h OR TA TB TC TD UU s8 (.own TD) (.val (.int gap)) s11 (.val (encRm rm)) (.val (.list (LS.map encL))) (.val (.list UU)) (.st w4.length) (.val (.str (alS k))) (.val (.int R)) s18) (w := w5) (w1 := w5) (h := w4.length) rfl hh5
    have ct : mT (mOp oGt (mLenL (mR (mVar 15))) (mL (eK (.int 0)))) (RL SC h OR TA TB TC TD UU s8 (.own TD) (.val (.int gap)) s11 (.val (encRm rm)) (.val (.list (LS.map encL))) (.val (.list UU)) (.st w4.length) (.val (.str (alS k))) (.val (.int R)) s18) w5 = some (decide (0 < ((js.map WV.r).length : Int)), w5) := by
      rw [mT_r, mOp_r, ml]; rfl
    clear g1 g2 g3 g4 hset hP hPw es qW g5 g6 g7 g8 g9 g10 g11 g12 nePl
    cases js with
    | nil => exact ⟨w5, (mIf_f ct).trans rfl, hh5, s5, Nat.le_refl _⟩
    | cons j js =>
      cases LS with
      | nil => cases lenj
      | cons l LS =>
        have hj := LW5.1
        have gj := jg j List.mem_cons_self
        have c2 : decide (0 < (((j :: js).map WV.r).length : Int)) = true := decide_eq_true (by rw [List.map_cons, List.length_cons]; omega)
        rw [c2] at ct
        refine ⟨_, (mIf_t ct).trans (mAppW (h := j) (w1 := w5) (w2 := w5) (x := .d (.tuple [.int 7, .int 0, .int 0, .int 0, .int 0])) (l := l.map dP) (mIxR_eq (h := w4.length) (w1 := w5) (w2 := w5) (i := 0) rfl rfl hh5 (by rw [atI_pos (by omega)]; rfl)) hj ?_ hj ?_), ?_, ?_, ?_⟩
        · rw [mQ_r, mL_r]
          have : (eTup (aCons (eK (.int 7)) (aCons (eK (.int 0)) (aCons (eK (.int 0)) (aCons (eK (.int 0)) (aCons (eK (.int 0)) aNil)))))) (RL SC h OR TA TB TC TD UU s8 (.own TD) (.val (.int gap)) s11 (.val (encRm rm)) (.val (.list ((l :: LS).map encL))) (.val (.list UU)) (.st w4.length) (.val (.str (alS k))) (.val (.int R)) s18) = some (.tuple [.int 7, .int 0, .int 0, .int 0, .int 0]) := by push_cast only [le5]
          rw [this]; rfl
        · have := (i1 l List.mem_cons_self).2.1
          rw [List.length_map, sizeLine_eq]; omega
        · rw [List.getElem?_set_ne (by omega)]; exact hh5
        · exact s5.frm (l := [j]) Frm.set (by simp; omega) (by simp; omega)
        · rw [List.length_set]; exact Nat.le_refl _
  have l45 : w4.length < w6.length := (List.getElem?_eq_some_iff.mp hh6).1
  have hh6b : (w6 ++ [WO.lst []])[w4.length]? = some (.lst (js.map .r)) := by rw [List.getElem?_append_left l45]; exact hh6
  have g14 : mExprQ (mMth lApp (mR (mVar 15)) (maQ (mQR (mMk (mL (eLst aNil)))) maNil)) (RL SC h OR TA TB TC TD UU s8 (.own TD) (.val (.int gap)) s11 (.val (encRm rm)) (.val (.list (LS.map encL))) (.val (.list UU)) (.st w4.length) (.val (.str (alS k))) (.val (.int R)) s18) w6 = some (.nx (RL SC h OR TA TB TC TD UU s8 (.own TD) (.val (.int gap)) s11 (.val (encRm rm)) (.val (.list (LS.map encL))) (.val (.list UU)) (.st w4.length) (.val (.str (alS k))) (.val (.int R)) s18), (w6 ++ [WO.lst []]).set w4.length (.lst (js.map .r ++ [.r w6.length]))) := by
    refine mAppW (h := w4.length) (w1 := w6) (w2 := w6 ++ [WO.lst []]) (x := .r w6.length) (l := js.map .r) rfl hh6 ?_ hh6b (by rw [List.length_map, lenj, sizeLine_eq]; omega)
    rw [mQR_r, mMk_eq (ds := []) (w1 := w6) rfl]; rfl
  have s7 : StA ((w6 ++ [WO.lst []]).set w4.length (.lst (js.map .r ++ [.r w6.length]))) h0 h := (s6.frm (l := []) Frm.app (by simp) (by simp)).frm (l := [w4.length]) Frm.set (by simp; omega) (by simp; omega)
  generalize hw7 : (w6 ++ [WO.lst []]).set w4.length (WO.lst (js.map .r ++ [.r w6.length])) = w7 at *
  obtain ⟨w8, js8, es8, F8, hh8, LW8, _⟩ := hset w7
  have g15 : mEqN true (mCallQ F_set_lines (maD (mL (eB 7)) (maD (mL (eB 12)) (maD (mL (eV 10)) maNil)))) (mL (eB 13)) (RL SC h OR TA TB TC TD UU s8 (.own TD) (.val (.int gap)) s11 (.val (encRm rm)) (.val (.list (LS.map encL))) (.val (.list UU)) (.st w4.length) (.val (.str (alS k))) (.val (.int R)) s18) w7 = some (false, w8) := by
    have q : mCallQ F_set_lines (maD (mL (eB 7)) (maD (mL (eB 12)) (maD (mL (eV 10)) maNil))) (RL SC h OR TA TB TC TD UU s8 (.own TD) (.val (.int gap)) s11 (.val (encRm rm)) (.val (.list (LS.map encL))) (.val (.list UU)) (.st w4.length) (.val (.str (alS k))) (.val (.int R)) s18) w7 = some (.r w7.length, w8) := by
      unfold mCallQ
      have r : maD (mL (eB 7)) (maD (mL (eB 12)) (maD (mL (eV 10)) maNil)) (RL SC h OR TA TB TC TD UU s8 (.own TD) (.val (.int gap)) s11 (.val (encRm rm)) (.val (.list (LS.map encL))) (.val (.list UU)) (.st w4.length) (.val (.str (alS k))) (.val (.int R)) s18) w7 = some ([.d (.list UU), .d (encRm rm), .d (.int gap)], w7) := rfl
      rw [r]
      exact es8
    rw [mEqN_eq (x := .r w7.length) (y := .list (LS.map encL)) (w1 := w8) (w2 := w8) q rfl (deep_all hh8 LW8) shL shL, eqL]; rfl
  refine ⟨.own TD, .val (encRm rm), .val (.list (LS.map encL)), .val (.list UU), .st w4.length, .val (.str (alS k)), .val (.int R), w8, ?_, s7.frm F8 (by simp) (by simp)⟩
  unfold L_law_2
  exact mSqN g1 (mSqN g2 (mSqN g3 (mSqN g4 (mSqN ((mIf_f g5).trans rfl) (mSqN ((mIf_f g6).trans rfl) (mSqN g7 (mSqN g8 (mSqN g9 (mSqN g10 (mSqN ((mIf_f g11).trans rfl) (mSqN ((mIf_f g12).trans rfl) (mSqN g13 (mSqN g14 ((mIf_f g15).trans rfl))))))))))))))
end


section
variable {h0 h : Nat}
theorem kids_go (hne : h0 ≠ h) (SC OR : PyData) (s10 s11 s12 s13 s14 s15 s16 s17 s18 : Slot) : ∀ (suf pre : List Int) {A B C : Tbl} {tx : Int → Option (List Nat)} {W sc Hf : Int → Int} {w : Wd} (s8 s9 : Slot), StA w h0 h → KI pre A B C tx W sc → (pre ++ suf).Nodup → (pre ++ suf).length ≤ 6 →
    ∃ A' B' C' tx' W' sc' Hf' w' t8 t9, mForGo (gV 8) L_law_1 (suf.map .int) (RL SC h OR (tbD A) (tbD B) (tbD C) (tbD (wdT Hf pre)) ((pre.flatMap (chU tx W sc)).map encU) s8 s9 s10 s11 s12 s13 s14 s15 s16 s17 s18) w = some (.nx (RL SC h OR (tbD A') (tbD B') (tbD C') (tbD (wdT Hf' (pre ++ suf))) (((pre ++ suf).flatMap (chU tx' W' sc')).map encU) t8 t9 s10 s11 s12 s13 s14 s15 s16 s17 s18), w') ∧ KI (pre ++ suf) A' B' C' tx' W' sc' ∧ StA w' h0 h
  | [], pre, A, B, C, tx, W, sc, Hf, w, s8, s9, s, K, nd, hl => by
    rw [List.append_nil]
    exact ⟨A, B, C, tx, W, sc, Hf, w, s8, s9, rfl, K, s⟩
  | c :: suf, pre, A, B, C, tx, W, sc, Hf, w, s8, s9, s, K, nd, hl => by
    have hc : c ∉ pre := by
      intro z
      rw [List.nodup_append] at nd
      exact nd.2.2 c z c List.mem_cons_self rfl
    have hlp : pre.length ≤ 100 := by rw [List.length_append] at hl; omega
    obtain ⟨A1, B1, C1, tx1, W1, sc1, Hf1, w1, t9, e, K1, s1, _⟩ := kid_ex hne s K hc hlp SC OR (Hf := Hf) s9 s10 s11 s12 s13 s14 s15 s16 s17 s18
    have ea : pre ++ c :: suf = pre ++ [c] ++ suf := by rw [List.append_assoc]; rfl
    rw [ea] at nd hl ⊢
    obtain ⟨A2, B2, C2, tx2, W2, sc2, Hf2, w2, t8, u9, e2, K2, s2⟩ := kids_go hne SC OR s10 s11 s12 s13 s14 s15 s16 s17 s18 suf (pre ++ [c]) (Hf := Hf1) (.val (.int c)) t9 s1 K1 nd hl
    refine ⟨A2, B2, C2, tx2, W2, sc2, Hf2, w2, t8, u9, ?_, K2, s2⟩
    rw [List.map_cons]
    exact (mForGo_one (ρ1 := RL SC h OR (tbD A) (tbD B) (tbD C) (tbD (wdT Hf pre)) ((pre.flatMap (chU tx W sc)).map encU) (.val (.int c)) s9 s10 s11 s12 s13 s14 s15 s16 s17 s18) rfl e).trans e2
theorem rnds_go {cs : List Int} {A B C : Tbl} {tx : Int → Option (List Nat)} {W sc Hf : Int → Int} (hne : h0 ≠ h) (K : KI cs A B C tx W sc) (h6 : cs.length ≤ 6) (nd : cs.Nodup) (SC : PyData) (gap : Int) (s8 s18 : Slot) : ∀ (ds : List PyData) {w : Wd} (s9 s11 s12 s13 s14 s15 s16 s17 : Slot), StA w h0 h →
    ∃ t9 t11 t12 t13 t14 t15 t16 t17 w', mForGo (gV 11) L_law_2 ds (RL SC h (.list (cs.map .int)) (tbD A) (tbD B) (tbD C) (tbD (wdT Hf cs)) ((cs.flatMap (chU tx W sc)).map encU) s8 s9 (.val (.int gap)) s11 s12 s13 s14 s15 s16 s17 s18) w = some (.nx (RL SC h (.list (cs.map .int)) (tbD A) (tbD B) (tbD C) (tbD (wdT Hf cs)) ((cs.flatMap (chU tx W sc)).map encU) s8 t9 (.val (.int gap)) t11 t12 t13 t14 t15 t16 t17 s18), w')
  | [], w, s9, s11, s12, s13, s14, s15, s16, s17, s => ⟨s9, s11, s12, s13, s14, s15, s16, s17, w, rfl⟩
  | d :: ds, w, s9, s11, s12, s13, s14, s15, s16, s17, s => by
    obtain ⟨u9, u12, u13, u14, u15, u16, u17, w1, e, s1⟩ := rnd_ex (Hf := Hf) hne s K h6 nd SC gap s8 s9 (.val d) s12 s13 s14 s15 s16 s17 s18
    obtain ⟨t9, t11, t12, t13, t14, t15, t16, t17, w2, e2⟩ := rnds_go (Hf := Hf) hne K h6 nd SC gap s8 s18 ds u9 (.val d) u12 u13 u14 u15 u16 u17 s1
    exact ⟨t9, t11, t12, t13, t14, t15, t16, t17, w2, (mForGo_one (ρ1 := RL SC h (.list (cs.map .int)) (tbD A) (tbD B) (tbD C) (tbD (wdT Hf cs)) ((cs.flatMap (chU tx W sc)).map encU) s8 s9 (.val (.int gap)) (.val d) s12 s13 s14 s15 s16 s17 s18) rfl e).trans e2⟩
end
theorem law_true (ns : List Int) (hl : ns.length ≤ 63) (hb : ∀ z ∈ ns, Builtin.Int.intBits z ≤ 1048576) : F_law [.list (ns.map .int)] = some (.bool true) := by
  have sA : StA [.lst (ns.map fun i => WV.d (.int i)), .lst [.r 0, .d (.int 0), .d (.int 1)]] 0 1 := by
    exact ⟨ns, 0, 1, rfl, rfl, by omega⟩
  have mk : mMk (mL (eCall cList (aCons (eS 0) aNil))) [.scr (.list (ns.map .int)), .un, .un, .un, .un, .un, .un, .un, .un, .un, .un, .un, .un, .un, .un, .un, .un, .un, .un] [] = some (0, [.lst (ns.map fun i => WV.d (.int i))]) := by
    have := mMk_eq (a := mL (eCall cList (aCons (eS 0) aNil))) (ρ := [.scr (.list (ns.map .int)), .un, .un, .un, .un, .un, .un, .un, .un, .un, .un, .un, .un, .un, .un, .un, .un, .un, .un]) (w := []) (w1 := []) (ds := ns.map .int) (by push_cast [])
    rw [List.map_map] at this
    exact this
  have nl : mNewL (maQ (mQR (mMk (mL (eCall cList (aCons (eS 0) aNil))))) (maQ (mQ (mL (eK (.int 0)))) (maQ (mQ (mL (eK (.int 1)))) maNil))) [.scr (.list (ns.map .int)), .un, .un, .un, .un, .un, .un, .un, .un, .un, .un, .un, .un, .un, .un, .un, .un, .un, .un] [] = some (1, [.lst (ns.map fun i => WV.d (.int i)), .lst [.r 0, .d (.int 0), .d (.int 1)]]) := by
    refine mNewL_eq (l := [.r 0, .d (.int 0), .d (.int 1)]) (w1 := [.lst (ns.map fun i => WV.d (.int i))]) ?_ (by simp)
    clear sA
    generalize PyData.list (ns.map .int) = S at *
    push_cast [maQ_r, mk]
  clear mk
  generalize PyData.list (ns.map .int) = S at *
  generalize ([.lst (ns.map fun i => WV.d (.int i)), .lst [.r 0, .d (.int 0), .d (.int 1)]] : Wd) = w0 at *
  have hne : (0 : Nat) ≠ 1 := by decide
  obtain ⟨d1, w1, e1, a1, b1, s1, t1⟩ := next_ex hne sA 7 (by decide) (by decide)
  obtain ⟨cs, hsl, nd, h6⟩ : ∃ cs : List Int, oSlL (.list [.int 7, .int 3, .int 12, .int 5, .int 9, .int 4]) none (some d1) = some (.list (cs.map .int)) ∧ cs.Nodup ∧ cs.length ≤ 6 := by
    have : d1 = 0 ∨ d1 = 1 ∨ d1 = 2 ∨ d1 = 3 ∨ d1 = 4 ∨ d1 = 5 ∨ d1 = 6 := by omega
    rcases this with rfl | rfl | rfl | rfl | rfl | rfl | rfl
    · exact ⟨[], rfl, by decide, by decide⟩
    · exact ⟨[7], rfl, by decide, by decide⟩
    · exact ⟨[7, 3], rfl, by decide, by decide⟩
    · exact ⟨[7, 3, 12], rfl, by decide, by decide⟩
    · exact ⟨[7, 3, 12, 5], rfl, by decide, by decide⟩
    · exact ⟨[7, 3, 12, 5, 9], rfl, by decide, by decide⟩
    · exact ⟨[7, 3, 12, 5, 9, 4], rfl, by decide, by decide⟩
  have K0 : KI [] [] [] [] (fun _ => none) (fun _ => 0) (fun _ => 0) := ⟨fun p hp => (by cases hp), fun p hp => (by cases hp), fun p hp => (by cases hp), Nat.le_refl _, Nat.le_refl _, Nat.le_refl _, fun c hc => (by cases hc), fun c hc => (by cases hc)⟩
  have le0 : 0 ≤ sizeLine := Nat.zero_le _
  have le2 : 2 ≤ sizeLine := size_le (by decide)
  have le6 : 6 ≤ sizeLine := size_le (by decide)
  obtain ⟨A, B, C, tx, W, sc, Hf, w2, t8, t9, ek, K, s2⟩ := kids_go hne S (.list (cs.map .int)) .un .un .un .un .un .un .un .un .un cs [] (Hf := fun _ => 0) .un .un s1 K0 (by rw [List.nil_append]; exact nd) (by rw [List.nil_append]; exact h6)
  rw [List.nil_append] at ek K
  obtain ⟨d2, w3, e2, a2, b2, s3, t3⟩ := next_ex hne s2 2 (by decide) (by decide)
  obtain ⟨n, hn, en⟩ := pickI [10, 101] a2 (by show d2 < 2; omega)
  have hn2 : 0 < n ∧ n ≤ 101 := by simp at hn; omega
  have en : oIx (.list [.int 10, .int 101]) (.int d2) = some (.int n) := en
  obtain ⟨gap, w4, e3, a3, b3, s4, t4⟩ := next_ex hne s3 n hn2.1 (by omega)
  obtain ⟨u9, u11, u12, u13, u14, u15, u16, u17, w5, er⟩ := rnds_go (Hf := Hf) hne K h6 nd S gap t8 .un (rangeD 0 (4 : Int).toNat) t9 .un .un .un .un .un .un .un s4
  refine boxO_rt (w1 := w5) rfl ?_
  show B_law [.scr S, .un, .un, .un, .un, .un, .un, .un, .un, .un, .un, .un, .un, .un, .un, .un, .un, .un, .un] [] = _
  unfold B_law
  rw [mseq_nx (ρ' := [.scr S, .st 1, .un, .un, .un, .un, .un, .un, .un, .un, .un, .un, .un, .un, .un, .un, .un, .un, .un]) (w1 := w0) (by rw [mAny_r, mQR_r, nl]; rfl)]
  have c1 := mCall_eq (Fn := F__law_next) (r := maQ (mVar 1) (maD (mL (eK (.int 7))) maNil)) (ρ := [.scr S, .st 1, .un, .un, .un, .un, .un, .un, .un, .un, .un, .un, .un, .un, .un, .un, .un, .un, .un]) (w := w0) (args := [.r 1, .d (.int 7)]) (w1 := w0) rfl e1
  have v2 : mSlW (mQ (mL (eLst (aCons (eK (.int 7)) (aCons (eK (.int 3)) (aCons (eK (.int 12)) (aCons (eK (.int 5)) (aCons (eK (.int 9)) (aCons (eK (.int 4)) aNil))))))))) (mLO oNo) (mSo (mCall F__law_next (maQ (mVar 1) (maD (mL (eK (.int 7))) maNil)))) [.scr S, .st 1, .un, .un, .un, .un, .un, .un, .un, .un, .un, .un, .un, .un, .un, .un, .un, .un, .un] w0 = some (.list (cs.map .int), w1) := by
    have l6 : (eLst (aCons (eK (.int 7)) (aCons (eK (.int 3)) (aCons (eK (.int 12)) (aCons (eK (.int 5)) (aCons (eK (.int 9)) (aCons (eK (.int 4)) aNil))))))) [.scr S, .st 1, .un, .un, .un, .un, .un, .un, .un, .un, .un, .un, .un, .un, .un, .un, .un, .un, .un] = some (.list [.int 7, .int 3, .int 12, .int 5, .int 9, .int 4]) := by push_cast only [le6]
    unfold mSlW
    rw [mQ_r, mL_r, l6]
    have so : mSo (mCall F__law_next (maQ (mVar 1) (maD (mL (eK (.int 7))) maNil))) [.scr S, .st 1, .un, .un, .un, .un, .un, .un, .un, .un, .un, .un, .un, .un, .un, .un, .un, .un, .un] w0 = some (some d1, w1) := by
      unfold mSo
      rw [c1]; rfl
    show (Option.bind (some ((none : Option Int), w0)) fun lo => (mSo (mCall F__law_next (maQ (mVar 1) (maD (mL (eK (.int 7))) maNil))) [.scr S, .st 1, .un, .un, .un, .un, .un, .un, .un, .un, .un, .un, .un, .un, .un, .un, .un, .un, .un] lo.2).bind fun hi => (rdW hi.2 (WV.d (.list [.int 7, .int 3, .int 12, .int 5, .int 9, .int 4]))).bind fun d => (oSlL d lo.1 hi.1).map fun d => (d, hi.2)) = _
    rw [Option.bind_some, so, Option.bind_some]
    show (oSlL (.list [.int 7, .int 3, .int 12, .int 5, .int 9, .int 4]) none (some d1)).map (fun d => (d, w1)) = _
    rw [hsl]; rfl
  rw [mseq_nx (ρ' := [.scr S, .st 1, .val (.list (cs.map .int)), .un, .un, .un, .un, .un, .un, .un, .un, .un, .un, .un, .un, .un, .un, .un, .un]) (w1 := w1) (mSet_eq v2 (by show 2 < 19; decide))]
  rw [mseq_s (ρ' := [.scr S, .st 1, .val (.list (cs.map .int)), .own (tbD []), .un, .un, .un, .un, .un, .un, .un, .un, .un, .un, .un, .un, .un, .un, .un]) rfl]
  rw [mseq_s (ρ' := [.scr S, .st 1, .val (.list (cs.map .int)), .own (tbD []), .own (tbD []), .un, .un, .un, .un, .un, .un, .un, .un, .un, .un, .un, .un, .un, .un]) rfl]
  rw [mseq_s (ρ' := [.scr S, .st 1, .val (.list (cs.map .int)), .own (tbD []), .own (tbD []), .own (tbD []), .un, .un, .un, .un, .un, .un, .un, .un, .un, .un, .un, .un, .un]) rfl]
  rw [mseq_s (ρ' := [.scr S, .st 1, .val (.list (cs.map .int)), .own (tbD []), .own (tbD []), .own (tbD []), .own (tbD []), .un, .un, .un, .un, .un, .un, .un, .un, .un, .un, .un, .un]) rfl]
  rw [mseq_s (ρ' := RL S 1 (.list (cs.map .int)) (tbD []) (tbD []) (tbD []) (tbD (wdT (fun _ => 0) [])) (([] : List Int).flatMap (chU (fun _ => none) (fun _ => 0) (fun _ => 0)) |>.map encU) .un .un .un .un .un .un .un .un .un .un .un) (by
    have el : (eLst aNil) [.scr S, .st 1, .val (.list (cs.map .int)), .own (tbD []), .own (tbD []), .own (tbD []), .own (tbD []), .un, .un, .un, .un, .un, .un, .un, .un, .un, .un, .un, .un] = some (.list []) := by
      generalize PyData.list (cs.map .int) = OR at *
      push_cast only [le0]
    exact sOwn_eq el (by show 7 < 19; decide))]
  rw [mseq_nx ((mFor_eq (w1 := w1) (mSeqI_eq (d := .list (cs.map .int)) (w1 := w1) rfl rfl)).trans ek)]
  have c2 := mCall_eq (Fn := F__law_next) (r := maQ (mVar 1) (maD (mL (eK (.int 2))) maNil)) (ρ := RL S 1 (.list (cs.map .int)) (tbD A) (tbD B) (tbD C) (tbD (wdT Hf cs)) ((cs.flatMap (chU tx W sc)).map encU) t8 t9 .un .un .un .un .un .un .un .un .un) (w := w2) (args := [.r 1, .d (.int 2)]) (w1 := w2) rfl e2
  have r3 : maQ (mVar 1) (maD (mOp oIx (mL (eLst (aCons (eK (.int 10)) (aCons (eK (.int 101)) aNil)))) (mCall F__law_next (maQ (mVar 1) (maD (mL (eK (.int 2))) maNil)))) maNil) (RL S 1 (.list (cs.map .int)) (tbD A) (tbD B) (tbD C) (tbD (wdT Hf cs)) ((cs.flatMap (chU tx W sc)).map encU) t8 t9 .un .un .un .un .un .un .un .un .un) w2 = some ([.r 1, .d (.int n)], w3) := by
    have q : mOp oIx (mL (eLst (aCons (eK (.int 10)) (aCons (eK (.int 101)) aNil)))) (mCall F__law_next (maQ (mVar 1) (maD (mL (eK (.int 2))) maNil))) (RL S 1 (.list (cs.map .int)) (tbD A) (tbD B) (tbD C) (tbD (wdT Hf cs)) ((cs.flatMap (chU tx W sc)).map encU) t8 t9 .un .un .un .un .un .un .un .un .un) w2 = some (.int n, w3) := by
      clear er ek v2 hsl
      unfold RL at *
      generalize tbD A = TA at *
      generalize tbD B = TB at *
      generalize tbD C = TC at *
      generalize tbD (wdT Hf cs) = TD at *
      generalize (cs.flatMap (chU tx W sc)).map encU = UU at *
      generalize PyData.list (cs.map .int) = OR at *
      push_cast [c2, en, le2]
    rw [maQ_r]
    show ((some ((WV.r 1), w2)).bind _) = _
    rw [Option.bind_some, maD_r, q]; rfl
  have c3 := mCall_eq (Fn := F__law_next) r3 e3
  rw [mseq_nx (mSet_eq c3 (by show 10 < 19; decide))]
  have rl : (RL S 1 (.list (cs.map .int)) (tbD A) (tbD B) (tbD C) (tbD (wdT Hf cs)) ((cs.flatMap (chU tx W sc)).map encU) t8 t9 .un .un .un .un .un .un .un .un .un).set 10 (.val (.int gap)) = RL S 1 (.list (cs.map .int)) (tbD A) (tbD B) (tbD C) (tbD (wdT Hf cs)) ((cs.flatMap (chU tx W sc)).map encU) t8 t9 (.val (.int gap)) .un .un .un .un .un .un .un .un := rfl
  rw [rl]
  rw [mseq_nx ((mFor_eq (w1 := w4) (mArgsI_eq (l := [.d (.int 4)]) (w1 := w4) rfl (rng1_r (by omega) (by omega)))).trans er)]
  rfl


end Lw
namespace Lw
open PySem L2 DV
def hfn : List He.FnD := [⟨("_law_next", none), "_law_next", "_law_next", defArgs s__law_next, defBody s__law_next, defScope s__law_next⟩,
  ⟨("_law_sign", none), "_law_sign", "_law_sign", defArgs s__law_sign, defBody s__law_sign, defScope s__law_sign⟩,
  ⟨("_law_string", none), "_law_string", "_law_string", defArgs s__law_string, defBody s__law_string, defScope s__law_string⟩,
  ⟨("units", none), "units", "units", defArgs s_units, defBody s_units, defScope s_units⟩,
  ⟨("advance", none), "advance", "advance", defArgs s_advance, defBody s_advance, defScope s_advance⟩,
  ⟨("offsets", none), "offsets", "offsets", defArgs s_offsets, defBody s_offsets, defScope s_offsets⟩,
  ⟨("paragraphs", none), "paragraphs", "paragraphs", defArgs s_paragraphs, defBody s_paragraphs, defScope s_paragraphs⟩,
  ⟨("words", none), "words", "words", defArgs s_words, defBody s_words, defScope s_words⟩,
  ⟨("text_units", none), "text_units", "text_units", defArgs s_text_units, defBody s_text_units, defScope s_text_units⟩,
  ⟨("_law_paragraphs", none), "_law_paragraphs", "_law_paragraphs", defArgs s__law_paragraphs, defBody s__law_paragraphs, defScope s__law_paragraphs⟩,
  ⟨("_law_words", none), "_law_words", "_law_words", defArgs s__law_words, defBody s__law_words, defScope s__law_words⟩,
  ⟨("_law_advance", none), "_law_advance", "_law_advance", defArgs s__law_advance, defBody s__law_advance, defScope s__law_advance⟩,
  ⟨("_law_extent", none), "_law_extent", "_law_extent", defArgs s__law_extent, defBody s__law_extent, defScope s__law_extent⟩,
  ⟨("_law_units", none), "_law_units", "_law_units", defArgs s__law_units, defBody s__law_units, defScope s__law_units⟩,
  ⟨("_law_pieces", none), "_law_pieces", "_law_pieces", defArgs s__law_pieces, defBody s__law_pieces, defScope s__law_pieces⟩,
  ⟨("_law_lines", none), "_law_lines", "_law_lines", defArgs s__law_lines, defBody s__law_lines, defScope s__law_lines⟩,
  ⟨("line_width", none), "line_width", "line_width", defArgs s_line_width, defBody s_line_width, defScope s_line_width⟩,
  ⟨("set_lines", none), "set_lines", "set_lines", defArgs s_set_lines, defBody s_set_lines, defScope s_set_lines⟩,
  ⟨("place_pieces", none), "place_pieces", "place_pieces", defArgs s_place_pieces, defBody s_place_pieces, defScope s_place_pieces⟩,
  ⟨("_law_placed", none), "_law_placed", "_law_placed", defArgs s__law_placed, defBody s__law_placed, defScope s__law_placed⟩,
  ⟨("_law_is_integer", none), "_law_is_integer", "_law_is_integer", defArgs s__law_is_integer, defBody s__law_is_integer, defScope s__law_is_integer⟩,
  ⟨("law", none), "law", "law", defArgs s_law, defBody s_law, defScope s_law⟩]
def hex (K : PySem.W.Frag) : List Bool := [He.eqO (PySem.W.nsIn K mainGlobals "_law_next") (some (some (.ref (He.fAd K ("_law_next", none))))),
  (He.Fa.code ("_law_next", none) "_law_next").ok K,
  PySem.W.keepIn K (.ref (He.fAd K ("_law_next", none))),
  He.eqO (PySem.W.nsIn K mainGlobals "_law_sign") (some (some (.ref (He.fAd K ("_law_sign", none))))),
  (He.Fa.code ("_law_sign", none) "_law_sign").ok K,
  PySem.W.keepIn K (.ref (He.fAd K ("_law_sign", none))),
  He.eqO (PySem.W.nsIn K mainGlobals "_law_string") (some (some (.ref (He.fAd K ("_law_string", none))))),
  (He.Fa.code ("_law_string", none) "_law_string").ok K,
  PySem.W.keepIn K (.ref (He.fAd K ("_law_string", none))),
  He.eqO (PySem.W.nsIn K mainGlobals "units") (some (some (.ref (He.fAd K ("units", none))))),
  (He.Fa.code ("units", none) "units").ok K,
  PySem.W.keepIn K (.ref (He.fAd K ("units", none))),
  He.eqO (PySem.W.nsIn K mainGlobals "advance") (some (some (.ref (He.fAd K ("advance", none))))),
  (He.Fa.code ("advance", none) "advance").ok K,
  PySem.W.keepIn K (.ref (He.fAd K ("advance", none))),
  He.eqO (PySem.W.nsIn K mainGlobals "offsets") (some (some (.ref (He.fAd K ("offsets", none))))),
  (He.Fa.code ("offsets", none) "offsets").ok K,
  PySem.W.keepIn K (.ref (He.fAd K ("offsets", none))),
  He.eqO (PySem.W.nsIn K mainGlobals "paragraphs") (some (some (.ref (He.fAd K ("paragraphs", none))))),
  (He.Fa.code ("paragraphs", none) "paragraphs").ok K,
  PySem.W.keepIn K (.ref (He.fAd K ("paragraphs", none))),
  He.eqO (PySem.W.nsIn K mainGlobals "words") (some (some (.ref (He.fAd K ("words", none))))),
  (He.Fa.code ("words", none) "words").ok K,
  PySem.W.keepIn K (.ref (He.fAd K ("words", none))),
  He.eqO (PySem.W.nsIn K mainGlobals "text_units") (some (some (.ref (He.fAd K ("text_units", none))))),
  (He.Fa.code ("text_units", none) "text_units").ok K,
  PySem.W.keepIn K (.ref (He.fAd K ("text_units", none))),
  He.eqO (PySem.W.nsIn K mainGlobals "_law_paragraphs") (some (some (.ref (He.fAd K ("_law_paragraphs", none))))),
  (He.Fa.code ("_law_paragraphs", none) "_law_paragraphs").ok K,
  PySem.W.keepIn K (.ref (He.fAd K ("_law_paragraphs", none))),
  He.eqO (PySem.W.nsIn K mainGlobals "_law_words") (some (some (.ref (He.fAd K ("_law_words", none))))),
  (He.Fa.code ("_law_words", none) "_law_words").ok K,
  PySem.W.keepIn K (.ref (He.fAd K ("_law_words", none))),
  He.eqO (PySem.W.nsIn K mainGlobals "_law_advance") (some (some (.ref (He.fAd K ("_law_advance", none))))),
  (He.Fa.code ("_law_advance", none) "_law_advance").ok K,
  PySem.W.keepIn K (.ref (He.fAd K ("_law_advance", none))),
  He.eqO (PySem.W.nsIn K mainGlobals "_law_extent") (some (some (.ref (He.fAd K ("_law_extent", none))))),
  (He.Fa.code ("_law_extent", none) "_law_extent").ok K,
  PySem.W.keepIn K (.ref (He.fAd K ("_law_extent", none))),
  He.eqO (PySem.W.nsIn K mainGlobals "_law_units") (some (some (.ref (He.fAd K ("_law_units", none))))),
  (He.Fa.code ("_law_units", none) "_law_units").ok K,
  PySem.W.keepIn K (.ref (He.fAd K ("_law_units", none))),
  He.eqO (PySem.W.nsIn K mainGlobals "_law_pieces") (some (some (.ref (He.fAd K ("_law_pieces", none))))),
  (He.Fa.code ("_law_pieces", none) "_law_pieces").ok K,
  PySem.W.keepIn K (.ref (He.fAd K ("_law_pieces", none))),
  He.eqO (PySem.W.nsIn K mainGlobals "_law_lines") (some (some (.ref (He.fAd K ("_law_lines", none))))),
  (He.Fa.code ("_law_lines", none) "_law_lines").ok K,
  PySem.W.keepIn K (.ref (He.fAd K ("_law_lines", none))),
  He.eqO (PySem.W.nsIn K mainGlobals "line_width") (some (some (.ref (He.fAd K ("line_width", none))))),
  (He.Fa.code ("line_width", none) "line_width").ok K,
  PySem.W.keepIn K (.ref (He.fAd K ("line_width", none))),
  He.eqO (PySem.W.nsIn K mainGlobals "set_lines") (some (some (.ref (He.fAd K ("set_lines", none))))),
  (He.Fa.code ("set_lines", none) "set_lines").ok K,
  PySem.W.keepIn K (.ref (He.fAd K ("set_lines", none))),
  He.eqO (PySem.W.nsIn K mainGlobals "place_pieces") (some (some (.ref (He.fAd K ("place_pieces", none))))),
  (He.Fa.code ("place_pieces", none) "place_pieces").ok K,
  PySem.W.keepIn K (.ref (He.fAd K ("place_pieces", none))),
  He.eqO (PySem.W.nsIn K mainGlobals "_law_placed") (some (some (.ref (He.fAd K ("_law_placed", none))))),
  (He.Fa.code ("_law_placed", none) "_law_placed").ok K,
  PySem.W.keepIn K (.ref (He.fAd K ("_law_placed", none))),
  He.eqO (PySem.W.nsIn K mainGlobals "_law_is_integer") (some (some (.ref (He.fAd K ("_law_is_integer", none))))),
  (He.Fa.code ("_law_is_integer", none) "_law_is_integer").ok K,
  PySem.W.keepIn K (.ref (He.fAd K ("_law_is_integer", none))),
  He.eqO (PySem.W.nsIn K mainGlobals "law") (some (some (.ref (He.fAd K ("law", none))))),
  (He.Fa.code ("law", none) "law").ok K,
  PySem.W.keepIn K (.ref (He.fAd K ("law", none))),
  He.eqO (PySem.W.nsIn K mainGlobals "int") (some none),
  He.eqO (PySem.W.nsIn K mainGlobals "len") (some none),
  He.eqO (PySem.W.nsIn K mainGlobals "range") (some none),
  He.eqO (PySem.W.nsIn K mainGlobals "sum") (some none),
  He.eqO (PySem.W.nsIn K mainGlobals "max") (some none),
  He.eqO (PySem.W.nsIn K mainGlobals "bool") (some none),
  He.eqO (PySem.W.nsIn K mainGlobals "isinstance") (some none),
  He.eqO (PySem.W.nsIn K mainGlobals "dict") (some none),
  He.eqO (PySem.W.nsIn K mainGlobals "list") (some none),
  bStr K "BROAD" "mwMW@",
  bStr K "THIN" " .,':;!|ijl"]
abbrev hR : PySem.W.OpenRow := PySem.W.OpenLaw.row PySem.Challenge.rw_quirekiln_k62_whole_lines_of_words_and_b
abbrev hV : Program := PySem.W.view hR.prog [27]
def hN0 : List PySem.Str := [("__name__" : PySem.Str), ("THIN" : PySem.Str), ("BROAD" : PySem.Str), ("units" : PySem.Str), ("advance" : PySem.Str), ("offsets" : PySem.Str), ("paragraphs" : PySem.Str), ("words" : PySem.Str), ("text_units" : PySem.Str), ("line_width" : PySem.Str), ("set_lines" : PySem.Str), ("place_pieces" : PySem.Str), ("_law_next" : PySem.Str), ("_law_sign" : PySem.Str), ("_law_string" : PySem.Str), ("_law_advance" : PySem.Str), ("_law_extent" : PySem.Str), ("_law_words" : PySem.Str), ("_law_paragraphs" : PySem.Str), ("_law_pieces" : PySem.Str), ("_law_lines" : PySem.Str), ("_law_units" : PySem.Str), ("_law_placed" : PySem.Str), ("_law_is_integer" : PySem.Str)]
def hN : List PySem.Str := hN0
abbrev hK : PySem.W.Hook := hookWd 5 hfn hex
def hOb (s : PySem.W.SharedT) : AlW := obsWG 5 hfn hex (HandSHeadRun.getT s)
theorem hOb_eq (s : PySem.W.SharedT) : hOb s = hK.obs s.abs := obsWG_eq (HandSHeadRun.getT_eq s)
theorem omap3 {α β γ δ : Type} {A : α → β} {B : α → γ} {C : α → δ} {a : β} {b : γ} {c : δ} : ∀ {o : Option α}, o.map A = some a → o.map B = some b → o.map C = some c → o.map (fun s => (A s, B s, C s)) = some (a, b, c)
  | some x, ha, hb, hc => by
    cases ha; cases hb; cases hc; rfl
section
open PySem.W HandSHeadRun
theorem run3 {r : PySem.W.OpenRow} {q : Program} {H : PySem.W.Hook} {ob : PySem.W.SharedT → H.α} {M : Nat} {loose : List PySem.Str} {w : World} (ha : ∀ os : PySem.OsState, (endF (stepQ (denQ tabQ) r.prog w) M r.prog w os).map (fun s => looksF r.prog (boot_heap w.params) s.abs) = some true)
    (hb : ∀ os : PySem.OsState, (endF (stepQ (denQ tabQ) r.prog w) M r.prog w os).map (fun s => seenQ q loose (importedModules r.prog.main.body) (fun s => xlAt q [] s && recOk r.toRowW.records s) s.abs) = some (openGood q loose))
    (hc : ∀ os : PySem.OsState, Option.map (β := H.α) (fun s => ob s) (endF (stepQ (denQ tabQ) r.prog w) M r.prog w os) = some (H.val w)) : HandSHeadRun.RunEq r q H ob M loose w := fun os => omap3 (ha os) (hb os) (hc os)
set_option maxHeartbeats 0 in
theorem hRa (w : World) : ∀ os : PySem.OsState, (endF (stepQ (denQ tabQ) hR.prog w) 12000 hR.prog w os).map (fun s => looksF hR.prog (boot_heap w.params) s.abs) = some true := by intro os; kernel_rfl
set_option maxHeartbeats 0 in
theorem hRb (w : World) : ∀ os : PySem.OsState, (endF (stepQ (denQ tabQ) hR.prog w) 12000 hR.prog w os).map (fun s => seenQ hV hN (importedModules hR.prog.main.body) (fun s => xlAt hV [] s && recOk hR.toRowW.records s) s.abs) = some (openGood hV hN) := by intro os; kernel_rfl
set_option maxHeartbeats 0 in
theorem hRc (w : World) : ∀ os : PySem.OsState, Option.map (β := PySem.W.Hook.α hK) (fun s => hOb s) (endF (stepQ (denQ tabQ) hR.prog w) 12000 hR.prog w os) = some (PySem.W.Hook.val hK w) := by intro os; kernel_rfl
end
set_option maxHeartbeats 0 in
theorem hRun (w : World) : HandSHeadRun.RunEq hR hV hK hOb 12000 hN w := @run3 hR hV hK hOb 12000 hN w (hRa w) (hRb w) (hRc w)
end Lw
open PySem PySem.W PySem.Calls PyProof.Rows
set_option maxHeartbeats 0 in
theorem PySem.Challenge.cw_quirekiln_k62_whole_lines_of_words_and_b_holds : PySem.Challenge.rw_quirekiln_k62_whole_lines_of_words_and_b.Holds := by
  w_on; o_law
  refine HandSHeadRun.head_any (r := OpenLaw.row PySem.Challenge.rw_quirekiln_k62_whole_lines_of_words_and_b) (q := Lw.hV) (H := Lw.hK) (ob := Lw.hOb) (M := 12000) (loose := Lw.hN) (d := HandSHeadRun.topDef (OpenLaw.row PySem.Challenge.rw_quirekiln_k62_whole_lines_of_words_and_b).prog 27) (kwd := []) Lw.hOb_eq
    (by kernel_rfl) (fun s => by kernel_rfl) Lw.hRun (by kernel_rfl) (by kernel_rfl) (by kernel_rfl) (by rfl) (by first | assumption | decide +kernel) (by decide +kernel) ⟨rfl, rfl, rfl, rfl, rfl, by decide +kernel⟩ ?hw ?hc
  case hw => w_witness2
  case hc =>
    refine DV.walk_TE (l := PySem.Challenge.rw_quirekiln_k62_whole_lines_of_words_and_b) (n := 63) (k := 5) (x := "script") (C := DV.SaysWd Lw.hfn Lw.hex) (CX := fun _ => L2.CX0) rfl (by decide) (by kernel_rfl) ⟨rfl, by decide, by decide⟩ (fun w h Y => Y) ?F (fun _ _ _ _ _ h => h)
    intro w mg mb mean lo fa h K T KX c G hmg0
    have hmg : mg ("law" : PySem.Str) = some (.ref fa) := by
      have e : (HandSHeadRun.topDef (OpenLaw.row PySem.Challenge.rw_quirekiln_k62_whole_lines_of_words_and_b).prog 27).name = ("law" : PySem.Str) := by kernel_rfl
      rw [← e]; exact hmg0
    obtain ⟨oc0, od0, sl0, kV0, dc0, pm0, an0, cd0, ct0, l0, cc0⟩ := c.def_ 0 1
    obtain ⟨oc1, od1, sl1, kV1, dc1, pm1, an1, cd1, ct1, l1, cc1⟩ := c.def_ 1 4
    obtain ⟨oc2, od2, sl2, kV2, dc2, pm2, an2, cd2, ct2, l2, cc2⟩ := c.def_ 2 7
    obtain ⟨oc3, od3, sl3, kV3, dc3, pm3, an3, cd3, ct3, l3, cc3⟩ := c.def_ 3 10
    obtain ⟨oc4, od4, sl4, kV4, dc4, pm4, an4, cd4, ct4, l4, cc4⟩ := c.def_ 4 13
    obtain ⟨oc5, od5, sl5, kV5, dc5, pm5, an5, cd5, ct5, l5, cc5⟩ := c.def_ 5 16
    obtain ⟨oc6, od6, sl6, kV6, dc6, pm6, an6, cd6, ct6, l6, cc6⟩ := c.def_ 6 19
    obtain ⟨oc7, od7, sl7, kV7, dc7, pm7, an7, cd7, ct7, l7, cc7⟩ := c.def_ 7 22
    obtain ⟨oc8, od8, sl8, kV8, dc8, pm8, an8, cd8, ct8, l8, cc8⟩ := c.def_ 8 25
    obtain ⟨oc9, od9, sl9, kV9, dc9, pm9, an9, cd9, ct9, l9, cc9⟩ := c.def_ 9 28
    obtain ⟨oc10, od10, sl10, kV10, dc10, pm10, an10, cd10, ct10, l10, cc10⟩ := c.def_ 10 31
    obtain ⟨oc11, od11, sl11, kV11, dc11, pm11, an11, cd11, ct11, l11, cc11⟩ := c.def_ 11 34
    obtain ⟨oc12, od12, sl12, kV12, dc12, pm12, an12, cd12, ct12, l12, cc12⟩ := c.def_ 12 37
    obtain ⟨oc13, od13, sl13, kV13, dc13, pm13, an13, cd13, ct13, l13, cc13⟩ := c.def_ 13 40
    obtain ⟨oc14, od14, sl14, kV14, dc14, pm14, an14, cd14, ct14, l14, cc14⟩ := c.def_ 14 43
    obtain ⟨oc15, od15, sl15, kV15, dc15, pm15, an15, cd15, ct15, l15, cc15⟩ := c.def_ 15 46
    obtain ⟨oc16, od16, sl16, kV16, dc16, pm16, an16, cd16, ct16, l16, cc16⟩ := c.def_ 16 49
    obtain ⟨oc17, od17, sl17, kV17, dc17, pm17, an17, cd17, ct17, l17, cc17⟩ := c.def_ 17 52
    obtain ⟨oc18, od18, sl18, kV18, dc18, pm18, an18, cd18, ct18, l18, cc18⟩ := c.def_ 18 55
    obtain ⟨oc19, od19, sl19, kV19, dc19, pm19, an19, cd19, ct19, l19, cc19⟩ := c.def_ 19 58
    obtain ⟨oc20, od20, sl20, kV20, dc20, pm20, an20, cd20, ct20, l20, cc20⟩ := c.def_ 20 61
    obtain ⟨oc21, od21, sl21, kV21, dc21, pm21, an21, cd21, ct21, l21, cc21⟩ := c.def_ 21 64
    obtain ⟨t_BROAD, c_BROAD⟩ := DV.bStr_ok (c.at 75)
    obtain ⟨t_THIN, c_THIN⟩ := DV.bStr_ok (c.at 76)
    exact Lw.all_mk T KX G hmg (c.ref 0) l0 cc0 (c.at 2) (c.ref 3) l1 cc1 (c.at 5) (c.ref 6) l2 cc2 (c.at 8) (c.ref 9) l3 cc3 (c.at 11) (c.ref 12) l4 cc4 (c.at 14) (c.ref 15) l5 cc5 (c.at 17) (c.ref 18) l6 cc6 (c.at 20) (c.ref 21) l7 cc7 (c.at 23) (c.ref 24) l8 cc8 (c.at 26) (c.ref 27) l9 cc9 (c.at 29) (c.ref 30) l10 cc10 (c.at 32) (c.ref 33) l11 cc11 (c.at 35) (c.ref 36) l12 cc12 (c.at 38) (c.ref 39) l13 cc13 (c.at 41) (c.ref 42) l14 cc14 (c.at 44) (c.ref 45) l15 cc15 (c.at 47) (c.ref 48) l16 cc16 (c.at 50) (c.ref 51) l17 cc17 (c.at 53) (c.ref 54) l18 cc18 (c.at 56) (c.ref 57) l19 cc19 (c.at 59) (c.ref 60) l20 cc20 (c.at 62) (c.ref 63) l21 cc21 (c.at 65) (c.ref 66) (c.ref 67) (c.ref 68) (c.ref 69) (c.ref 70) (c.ref 71) (c.ref 72) (c.ref 73) (c.ref 74) c_BROAD c_THIN Lw.law_true
